import PyProof.Rows.All
import Wide.All
import OpenK.AllK
import Wide.FinOn
import HandS.ForMost
import HandS.ForExc
import HandS.Wide
import HandS.EndBits
import HandS.Flow
import HandS.Style
import HandS.Zip
import HandS.Deep
import HandS.Codes
import HandS.IsInst
import HandS.FStr
import HandS.Conv
import KE.KeyNested
import HandS.TupAny
import HandS.Walk
import HandS.Dict
import PyProof.Draws
import HandS.More
import HandS.NoneIn
import KE.DatumOrd
import PyProof.Rows.RowBridgeK
import HandS.TupLen
import KE.SortData
import PyProof.Rows.StrLawsPart
import PyProof.StrLawsIn
import HandS.DictEq
import KE.KDictKeyed
import HandS.SetFor
import HandS.Iter
import KE.DataMinKey
import HandS.StrMore
import HandS.Replace
import HandS.ReplaceList
import PyProof.ToksMono
import HandS.Defaults
import HandS.Exc
import PyProof.StrLawsFirst
import KE.KEqDict
import HandS.Rev
import HandS.ExcOwn
import HandS.ExcIs
import HandS.WordsExc
import HandS.TryOnly
import HandS.ExcCtx
import HandS.HotCalls
import HandS.ExcField
import KE.KExcIs
import HandS.ExcInit
import HandS.ClsMeth
import PySem.Challenge.RW_outweave_k27_most_refused
set_option Elab.async false
set_option synthInstance.maxSize 10000
set_option linter.all false
set_option maxRecDepth 100000
set_option exponentiation.threshold 20000
set_option maxHeartbeats 4000000
namespace LI
open PySem L2

inductive D where
  | gone
  | non
  | bl (b : Bool)
  | int (i : Int)
  | str (s : List Nat)
  | scr (ns : List Int)
  | kst (ss : List (List Nat))
  | key (ks : List Key)
  | tup (ds : List D)
  | lst (o : Bool) (ds : List D)
  | dK (o : Bool) (ks : List Key) (ds : List D)
  | dT (o : Bool) (ks : List (List Key)) (ds : List D)
  | dN (o : Bool) (ks : List NestedKey) (ds : List D)
  | obj (o : Bool) (c : Nat) (fs : List Str) (ds : List D)

abbrev FP := Addr → Nat
def one (a : Addr) : FP := fun b => if b = a then 1 else 0
def fz : FP := fun _ => 0
def fa (S T : FP) : FP := fun b => S b + T b
def Ex (H H' : Hp) : Prop := ∀ a o, H a = some o → H' a = some o
theorem Ex.refl (H : Hp) : Ex H H := fun _ _ h => h
theorem Ex.trans {H H1 H2 : Hp} (a : Ex H H1) (b : Ex H1 H2) : Ex H H2 := fun x o h => b x o (a x o h)

structure LC where
  K : PySem.W.Frag
  cl : Nat → Addr
  w : World

mutual
/-- the value is the key -/
def NkRep (K : PySem.W.Frag) (P : Hp) : NestedKey → V → Prop
  | .none, v => v = .non
  | .num i, v => v = .int i
  | .text x, v => v = .str x
  | .tup ks, v => ∃ a xs, v = .ref a ∧ SqT K P a xs ∧ NkAll K P ks xs
def NkAll (K : PySem.W.Frag) (P : Hp) : List NestedKey → List V → Prop
  | [], xs => xs = []
  | k :: ks, xs => ∃ y ys, xs = y :: ys ∧ NkRep K P k y ∧ NkAll K P ks ys
end
structure NkOk (K : PySem.W.Frag) (P : Hp) (a : Addr) (ks : List NestedKey) (bs : List Addr) : Prop where
  ne : (a == sysModules) = false
  len : ks.length = bs.length
  le : ks.length ≤ sizeLine
  nd : ks.Nodup
  at_ : ∀ p ∈ ks.zip bs, NkRep K P p.1 (.ref p.2) ∧ p.1.depth ≤ 8
abbrev DnE (w : World) : List (NestedKey × Addr × V) → List DictEntry → Prop := Paired fun p e => e.hash = p.1.hash w ∧ e.key = .ref p.2.1 ∧ RelV p.2.2 e.val
def DnObj (w : World) (l : List (NestedKey × Addr × V)) (o : Obj) : Prop := o.ExactDict ∧ ∃ es ep, o.data = .dict es ep ∧ DnE w l es.toList
def exO (a : Addr) (o : Obj) : HO := .ext fun h => h.get? a = some o
def DnAt (w : World) (H : Hp) (a : Addr) (l : List (NestedKey × Addr × V)) : Prop := ∃ o, H a = some (exO a o) ∧ DnObj w l o
theorem DnAt.of {w : World} {H H' : Hp} {a : Addr} {l : List (NestedKey × Addr × V)} (h : DnAt w H a l) (k : ∀ o, H a = some o → H' a = some o) : DnAt w H' a l := let ⟨o, h1, h2⟩ := h; ⟨o, k _ h1, h2⟩

mutual
def Rep (c : LC) (P H : Hp) : D → V → FP → Prop
  | .gone, _, S => S = fz
  | .non, v, S => v = .non ∧ S = fz
  | .bl b, v, S => v = .bl b ∧ S = fz
  | .int i, v, S => v = .int i ∧ S = fz
  | .str s, v, S => v = .str ⟨s.toArray⟩ ∧ S = fz
  | .scr ns, v, S => ∃ a, v = .ref a ∧ SqL c.K P a (ns.map V.int) ∧ S = fz
  | .kst ss, v, S => ∃ a, v = .ref a ∧ SqT c.K P a (ss.map fun s => V.str ⟨s.toArray⟩) ∧ S = fz
  | .key ks, v, S => ∃ a, v = .ref a ∧ P a = some (.tup (ks.map kV)) ∧ S = fz
  | .tup ds, v, S => ∃ a xs, v = .ref a ∧ SqT c.K P a xs ∧ RepL c P H ds xs S
  | .lst true ds, v, S => ∃ a xs T, v = .ref a ∧ H a = some (.lst xs) ∧ RepL c P H ds xs T ∧ S = fa (one a) T
  | .lst false ds, v, S => ∃ a xs, v = .ref a ∧ P a = some (.lst xs) ∧ RepL c P H ds xs S
  | .dK true ks ds, v, S => ∃ a xs T, v = .ref a ∧ H a = some (.dK (ks.zip xs)) ∧ ks.length = xs.length ∧ RepL c P H ds xs T ∧ S = fa (one a) T
  | .dK false ks ds, v, S => ∃ a xs, v = .ref a ∧ P a = some (.dK (ks.zip xs)) ∧ ks.length = xs.length ∧ RepL c P H ds xs S
  | .dT true ks ds, v, S => ∃ a xs T, v = .ref a ∧ H a = some (.dT (ks.zip xs)) ∧ ks.length = xs.length ∧ RepL c P H ds xs T ∧ S = fa (one a) T
  | .dT false ks ds, v, S => ∃ a xs, v = .ref a ∧ P a = some (.dT (ks.zip xs)) ∧ ks.length = xs.length ∧ RepL c P H ds xs S
  | .dN true ks ds, v, S => ∃ a bs xs T, v = .ref a ∧ DnAt c.w H a (ks.zip (bs.zip xs)) ∧ NkOk c.K P a ks bs ∧ ks.length = xs.length ∧ RepL c P H ds xs T ∧ S = fa (one a) T
  | .dN false ks ds, v, S => ∃ a bs xs, v = .ref a ∧ DnAt c.w P a (ks.zip (bs.zip xs)) ∧ NkOk c.K P a ks bs ∧ ks.length = xs.length ∧ RepL c P H ds xs S
  | .obj true k fs ds, v, S => ∃ a dx xs T, v = .ref a ∧ H a = some (.ins (c.cl k) dx (fs.zip xs)) ∧ fs.length = xs.length ∧ RepL c P H ds xs T ∧ S = fa (one a) T
  | .obj false k fs ds, v, S => ∃ a dx xs, v = .ref a ∧ P a = some (.ins (c.cl k) dx (fs.zip xs)) ∧ fs.length = xs.length ∧ RepL c P H ds xs S
def RepL (c : LC) (P H : Hp) : List D → List V → FP → Prop
  | [], xs, S => xs = [] ∧ S = fz
  | d :: ds, xs, S => ∃ y ys T U, xs = y :: ys ∧ Rep c P H d y T ∧ RepL c P H ds ys U ∧ S = fa T U
end
mutual
/-- nothing in it is owned -/
def frz : D → Bool
  | .tup ds => frzL ds
  | .lst o ds => !o && frzL ds
  | .dK o _ ds => !o && frzL ds
  | .dT o _ ds => !o && frzL ds
  | .dN o _ ds => !o && frzL ds
  | .obj o _ _ ds => !o && frzL ds
  | _ => true
def frzL : List D → Bool
  | [] => true
  | d :: ds => frz d && frzL ds
end
mutual
/-- the same, owned by none -/
def ice : D → D
  | .tup ds => .tup (iceL ds)
  | .lst _ ds => .lst false (iceL ds)
  | .dK _ ks ds => .dK false ks (iceL ds)
  | .dT _ ks ds => .dT false ks (iceL ds)
  | .dN _ ks ds => .dN false ks (iceL ds)
  | .obj _ k fs ds => .obj false k fs (iceL ds)
  | d => d
def iceL : List D → List D
  | [] => []
  | d :: ds => ice d :: iceL ds
end
mutual
/-- no list, dict or instance in it that is frozen -/
def noIce : D → Bool
  | .scr _ => false
  | .tup ds => noIceL ds
  | .lst o ds => o && noIceL ds
  | .dK o _ ds => o && noIceL ds
  | .dT o _ ds => o && noIceL ds
  | .dN o _ ds => o && noIceL ds
  | .obj o _ _ ds => o && noIceL ds
  | _ => true
def noIceL : List D → Bool
  | [] => true
  | d :: ds => noIce d && noIceL ds
end
theorem fa_fz (S : FP) : fa S fz = S := by funext b; simp [fa, fz]
theorem fz_fa (S : FP) : fa fz S = S := by funext b; simp [fa, fz]

theorem sqt_mono {K : PySem.W.Frag} {H H' : Hp} {a : Addr} {xs : List V} (e : Ex H H') (h : SqT K H a xs) : SqT K H' a xs := by
  rcases h with (h | ⟨o, h⟩) | h
  · exact .inl (.inl (e _ _ h))
  · exact .inl (.inr ⟨o, e _ _ h⟩)
  · exact .inr h
theorem sql_mono {K : PySem.W.Frag} {H H' : Hp} {a : Addr} {xs : List V} (e : Ex H H') (h : SqL K H a xs) : SqL K H' a xs := by
  rcases h with (h | ⟨o, h⟩) | h
  · exact .inl (.inl (e _ _ h))
  · exact .inl (.inr ⟨o, e _ _ h⟩)
  · exact .inr h

mutual
theorem NkRep.mono {K : PySem.W.Frag} {P P' : Hp} (e : ∀ (a : Addr) (xs : List V), SqT K P a xs → SqT K P' a xs) : ∀ (k : NestedKey) (v : V), NkRep K P k v → NkRep K P' k v
  | .none, v, h => h
  | .num _, v, h => h
  | .text _, v, h => h
  | .tup ks, v, ⟨a, xs, h1, h2, h3⟩ => ⟨a, xs, h1, e a xs h2, NkAll.mono e ks xs h3⟩
theorem NkAll.mono {K : PySem.W.Frag} {P P' : Hp} (e : ∀ (a : Addr) (xs : List V), SqT K P a xs → SqT K P' a xs) : ∀ (ks : List NestedKey) (vs : List V), NkAll K P ks vs → NkAll K P' ks vs
  | [], vs, h => h
  | k :: ks, vs, ⟨y, ys, h1, h2, h3⟩ => ⟨y, ys, h1, NkRep.mono e k y h2, NkAll.mono e ks ys h3⟩
end
theorem NkOk.mono {K : PySem.W.Frag} {P P' : Hp} {a : Addr} {ks : List NestedKey} {bs : List Addr} (h : NkOk K P a ks bs) (e : ∀ (a : Addr) (xs : List V), SqT K P a xs → SqT K P' a xs) : NkOk K P' a ks bs :=
  ⟨h.ne, h.len, h.le, h.nd, fun p hp => ⟨NkRep.mono e _ _ (h.at_ p hp).1, (h.at_ p hp).2⟩⟩
mutual
theorem Rep.mono {c : LC} {P H P' H' : Hp} (eP : Ex P P') : ∀ (d : D) (v : V) (S : FP), (∀ a o, 0 < S a → H a = some o → H' a = some o) → Rep c P H d v S → Rep c P' H' d v S
  | .gone, v, S, _, h => h
  | .non, v, S, _, h => h
  | .bl _, v, S, _, h => h
  | .int _, v, S, _, h => h
  | .str _, v, S, _, h => h
  | .scr ns, v, S, k, ⟨a, e, q, z⟩ => ⟨a, e, sql_mono eP q, z⟩
  | .kst ss, v, S, k, ⟨a, e, q, z⟩ => ⟨a, e, sqt_mono eP q, z⟩
  | .key ks, v, S, k, ⟨a, e, q, z⟩ => ⟨a, e, eP _ _ q, z⟩
  | .tup ds, v, S, k, ⟨a, xs, e, q, r⟩ => ⟨a, xs, e, sqt_mono eP q, RepL.mono eP ds xs S k r⟩
  | .lst true ds, v, S, k, ⟨a, xs, T, e, q, r, f⟩ => ⟨a, xs, T, e, k _ _ (by rw [f]; simp [fa, one]; omega) q, RepL.mono eP ds xs T (fun b o hb => k b o (by rw [f]; simp only [fa]; omega)) r, f⟩
  | .lst false ds, v, S, k, ⟨a, xs, e, q, r⟩ => ⟨a, xs, e, eP _ _ q, RepL.mono eP ds xs S k r⟩
  | .dK true ks ds, v, S, k, ⟨a, xs, T, e, q, n, r, f⟩ => ⟨a, xs, T, e, k _ _ (by rw [f]; simp [fa, one]; omega) q, n, RepL.mono eP ds xs T (fun b o hb => k b o (by rw [f]; simp only [fa]; omega)) r, f⟩
  | .dK false ks ds, v, S, k, ⟨a, xs, e, q, n, r⟩ => ⟨a, xs, e, eP _ _ q, n, RepL.mono eP ds xs S k r⟩
  | .dT true ks ds, v, S, k, ⟨a, xs, T, e, q, n, r, f⟩ => ⟨a, xs, T, e, k _ _ (by rw [f]; simp [fa, one]; omega) q, n, RepL.mono eP ds xs T (fun b o hb => k b o (by rw [f]; simp only [fa]; omega)) r, f⟩
  | .dT false ks ds, v, S, k, ⟨a, xs, e, q, n, r⟩ => ⟨a, xs, e, eP _ _ q, n, RepL.mono eP ds xs S k r⟩
  | .dN true ks ds, v, S, k, ⟨a, bs, xs, T, e, q, z, n, r, f⟩ => ⟨a, bs, xs, T, e, q.of fun o h => k a o (by rw [f]; simp [fa, one]; omega) h, z.mono fun _ _ => sqt_mono eP, n, RepL.mono eP ds xs T (fun b o hb => k b o (by rw [f]; simp only [fa]; omega)) r, f⟩
  | .dN false ks ds, v, S, k, ⟨a, bs, xs, e, q, z, n, r⟩ => ⟨a, bs, xs, e, q.of fun o h => eP a o h, z.mono fun _ _ => sqt_mono eP, n, RepL.mono eP ds xs S k r⟩
  | .obj true _ fs ds, v, S, k, ⟨a, dx, xs, T, e, q, n, r, f⟩ => ⟨a, dx, xs, T, e, k _ _ (by rw [f]; simp [fa, one]; omega) q, n, RepL.mono eP ds xs T (fun b o hb => k b o (by rw [f]; simp only [fa]; omega)) r, f⟩
  | .obj false _ fs ds, v, S, k, ⟨a, dx, xs, e, q, n, r⟩ => ⟨a, dx, xs, e, eP _ _ q, n, RepL.mono eP ds xs S k r⟩
theorem RepL.mono {c : LC} {P H P' H' : Hp} (eP : Ex P P') : ∀ (ds : List D) (xs : List V) (S : FP), (∀ a o, 0 < S a → H a = some o → H' a = some o) → RepL c P H ds xs S → RepL c P' H' ds xs S
  | [], xs, S, _, h => h
  | d :: ds, xs, S, k, ⟨y, ys, T, U, e, r, rs, f⟩ => ⟨y, ys, T, U, e, Rep.mono eP d y T (fun b o hb => k b o (by rw [f]; simp only [fa]; omega)) r, RepL.mono eP ds ys U (fun b o hb => k b o (by rw [f]; simp only [fa]; omega)) rs, f⟩
end
mutual
theorem Rep.frz0 {c : LC} {P H : Hp} : ∀ (d : D) (v : V) (S : FP), frz d = true → Rep c P H d v S → S = fz
  | .gone, v, S, _, h => h
  | .non, v, S, _, h => h.2
  | .bl _, v, S, _, h => h.2
  | .int _, v, S, _, h => h.2
  | .str _, v, S, _, h => h.2
  | .scr ns, v, S, k, ⟨a, e, q, z⟩ => z
  | .kst ss, v, S, k, ⟨a, e, q, z⟩ => z
  | .key ks, v, S, k, ⟨a, e, q, z⟩ => z
  | .tup ds, v, S, k, ⟨a, xs, e, q, r⟩ => RepL.frz0 ds xs S k r
  | .lst true ds, v, S, k, _ => by simp [frz] at k
  | .lst false ds, v, S, k, ⟨a, xs, e, q, r⟩ => RepL.frz0 ds xs S (by simpa [frz] using k) r
  | .dK true ks ds, v, S, k, _ => by simp [frz] at k
  | .dK false ks ds, v, S, k, ⟨a, xs, e, q, n, r⟩ => RepL.frz0 ds xs S (by simpa [frz] using k) r
  | .dT true ks ds, v, S, k, _ => by simp [frz] at k
  | .dT false ks ds, v, S, k, ⟨a, xs, e, q, n, r⟩ => RepL.frz0 ds xs S (by simpa [frz] using k) r
  | .dN true ks ds, v, S, k, _ => by simp [frz] at k
  | .dN false ks ds, v, S, k, ⟨a, bs, xs, e, q, z, n, r⟩ => RepL.frz0 ds xs S (by simpa [frz] using k) r
  | .obj true _ fs ds, v, S, k, _ => by simp [frz] at k
  | .obj false _ fs ds, v, S, k, ⟨a, dx, xs, e, q, n, r⟩ => RepL.frz0 ds xs S (by simpa [frz] using k) r
theorem RepL.frz0 {c : LC} {P H : Hp} : ∀ (ds : List D) (xs : List V) (S : FP), frzL ds = true → RepL c P H ds xs S → S = fz
  | [], xs, S, _, h => h.2
  | d :: ds, xs, S, k, ⟨y, ys, T, U, e, r, rs, f⟩ => by
    simp only [frzL, Bool.and_eq_true] at k
    rw [f, Rep.frz0 d y T k.1 r, RepL.frz0 ds ys U k.2 rs, fa_fz]
end
mutual
theorem Rep.ice {c : LC} {P H P' H' : Hp} (eP : Ex P P') : ∀ (d : D) (v : V) (S : FP), (∀ a o, 0 < S a → H a = some o → P' a = some o) → Rep c P H d v S → Rep c P' H' (ice d) v fz
  | .gone, v, S, _, h => rfl
  | .non, v, S, _, h => ⟨h.1, rfl⟩
  | .bl _, v, S, _, h => ⟨h.1, rfl⟩
  | .int _, v, S, _, h => ⟨h.1, rfl⟩
  | .str _, v, S, _, h => ⟨h.1, rfl⟩
  | .scr ns, v, S, k, ⟨a, e, q, z⟩ => ⟨a, e, sql_mono eP q, rfl⟩
  | .kst ss, v, S, k, ⟨a, e, q, z⟩ => ⟨a, e, sqt_mono eP q, rfl⟩
  | .key ks, v, S, k, ⟨a, e, q, z⟩ => ⟨a, e, eP _ _ q, rfl⟩
  | .tup ds, v, S, k, ⟨a, xs, e, q, r⟩ => ⟨a, xs, e, sqt_mono eP q, RepL.ice eP ds xs S k r⟩
  | .lst true ds, v, S, k, ⟨a, xs, T, e, q, r, f⟩ => ⟨a, xs, e, k _ _ (by rw [f]; simp [fa, one]; omega) q, RepL.ice eP ds xs T (fun b o hb => k b o (by rw [f]; simp only [fa]; omega)) r⟩
  | .lst false ds, v, S, k, ⟨a, xs, e, q, r⟩ => ⟨a, xs, e, eP _ _ q, RepL.ice eP ds xs S k r⟩
  | .dK true ks ds, v, S, k, ⟨a, xs, T, e, q, n, r, f⟩ => ⟨a, xs, e, k _ _ (by rw [f]; simp [fa, one]; omega) q, n, RepL.ice eP ds xs T (fun b o hb => k b o (by rw [f]; simp only [fa]; omega)) r⟩
  | .dK false ks ds, v, S, k, ⟨a, xs, e, q, n, r⟩ => ⟨a, xs, e, eP _ _ q, n, RepL.ice eP ds xs S k r⟩
  | .dT true ks ds, v, S, k, ⟨a, xs, T, e, q, n, r, f⟩ => ⟨a, xs, e, k _ _ (by rw [f]; simp [fa, one]; omega) q, n, RepL.ice eP ds xs T (fun b o hb => k b o (by rw [f]; simp only [fa]; omega)) r⟩
  | .dT false ks ds, v, S, k, ⟨a, xs, e, q, n, r⟩ => ⟨a, xs, e, eP _ _ q, n, RepL.ice eP ds xs S k r⟩
  | .dN true ks ds, v, S, k, ⟨a, bs, xs, T, e, q, z, n, r, f⟩ => ⟨a, bs, xs, e, q.of fun o h => k a o (by rw [f]; simp [fa, one]; omega) h, z.mono fun _ _ => sqt_mono eP, n, RepL.ice eP ds xs T (fun b o hb => k b o (by rw [f]; simp only [fa]; omega)) r⟩
  | .dN false ks ds, v, S, k, ⟨a, bs, xs, e, q, z, n, r⟩ => ⟨a, bs, xs, e, q.of fun o h => eP a o h, z.mono fun _ _ => sqt_mono eP, n, RepL.ice eP ds xs S k r⟩
  | .obj true _ fs ds, v, S, k, ⟨a, dx, xs, T, e, q, n, r, f⟩ => ⟨a, dx, xs, e, k _ _ (by rw [f]; simp [fa, one]; omega) q, n, RepL.ice eP ds xs T (fun b o hb => k b o (by rw [f]; simp only [fa]; omega)) r⟩
  | .obj false _ fs ds, v, S, k, ⟨a, dx, xs, e, q, n, r⟩ => ⟨a, dx, xs, e, eP _ _ q, n, RepL.ice eP ds xs S k r⟩
theorem RepL.ice {c : LC} {P H P' H' : Hp} (eP : Ex P P') : ∀ (ds : List D) (xs : List V) (S : FP), (∀ a o, 0 < S a → H a = some o → P' a = some o) → RepL c P H ds xs S → RepL c P' H' (iceL ds) xs fz
  | [], xs, S, _, h => ⟨h.1, rfl⟩
  | d :: ds, xs, S, k, ⟨y, ys, T, U, e, r, rs, f⟩ => ⟨y, ys, fz, fz, e, Rep.ice eP d y T (fun b o hb => k b o (by rw [f]; simp only [fa]; omega)) r, RepL.ice eP ds ys U (fun b o hb => k b o (by rw [f]; simp only [fa]; omega)) rs, (fa_fz fz).symm⟩
end
mutual
/-- what is owned stands in the heap -/
theorem Rep.there {c : LC} {P H : Hp} : ∀ (d : D) (v : V) (S : FP), Rep c P H d v S → ∀ a, 0 < S a → H a ≠ none
  | .gone, v, S, h => fun a p => by rw [show S = fz from h] at p; simp [fz] at p
  | .non, v, S, h => fun a p => by rw [h.2] at p; simp [fz] at p
  | .bl _, v, S, h => fun a p => by rw [h.2] at p; simp [fz] at p
  | .int _, v, S, h => fun a p => by rw [h.2] at p; simp [fz] at p
  | .str _, v, S, h => fun a p => by rw [h.2] at p; simp [fz] at p
  | .scr ns, v, S, ⟨a, e, q, z⟩ => fun b p => by rw [z] at p; simp [fz] at p
  | .kst ss, v, S, ⟨a, e, q, z⟩ => fun b p => by rw [z] at p; simp [fz] at p
  | .key ks, v, S, ⟨a, e, q, z⟩ => fun b p => by rw [z] at p; simp [fz] at p
  | .tup ds, v, S, ⟨a, xs, e, q, r⟩ => RepL.there ds xs S r
  | .lst true ds, v, S, ⟨a, xs, T, e, q, r, f⟩ => fun b p => by
    by_cases z : b = a
    · rw [z, q]; simp
    · exact RepL.there ds xs T r b (by rw [f] at p; simpa [fa, one, z] using p)
  | .lst false ds, v, S, ⟨a, xs, e, q, r⟩ => RepL.there ds xs S r
  | .dK true ks ds, v, S, ⟨a, xs, T, e, q, n, r, f⟩ => fun b p => by
    by_cases z : b = a
    · rw [z, q]; simp
    · exact RepL.there ds xs T r b (by rw [f] at p; simpa [fa, one, z] using p)
  | .dK false ks ds, v, S, ⟨a, xs, e, q, n, r⟩ => RepL.there ds xs S r
  | .dT true ks ds, v, S, ⟨a, xs, T, e, q, n, r, f⟩ => fun b p => by
    by_cases z : b = a
    · rw [z, q]; simp
    · exact RepL.there ds xs T r b (by rw [f] at p; simpa [fa, one, z] using p)
  | .dT false ks ds, v, S, ⟨a, xs, e, q, n, r⟩ => RepL.there ds xs S r
  | .dN true ks ds, v, S, ⟨a, bs, xs, T, e, q, _, n, r, f⟩ => fun b p => by
    by_cases z : b = a
    · obtain ⟨_, q, _⟩ := q; rw [z, q]; simp
    · exact RepL.there ds xs T r b (by rw [f] at p; simpa [fa, one, z] using p)
  | .dN false ks ds, v, S, ⟨a, bs, xs, e, q, _, n, r⟩ => RepL.there ds xs S r
  | .obj true _ fs ds, v, S, ⟨a, dx, xs, T, e, q, n, r, f⟩ => fun b p => by
    by_cases z : b = a
    · rw [z, q]; simp
    · exact RepL.there ds xs T r b (by rw [f] at p; simpa [fa, one, z] using p)
  | .obj false _ fs ds, v, S, ⟨a, dx, xs, e, q, n, r⟩ => RepL.there ds xs S r
theorem RepL.there {c : LC} {P H : Hp} : ∀ (ds : List D) (xs : List V) (S : FP), RepL c P H ds xs S → ∀ a, 0 < S a → H a ≠ none
  | [], xs, S, h => fun a p => by rw [h.2] at p; simp [fz] at p
  | d :: ds, xs, S, ⟨y, ys, T, U, e, r, rs, f⟩ => fun a p => by
    rw [f] at p
    by_cases z : 0 < T a
    · exact Rep.there d y T r a z
    · exact RepL.there ds ys U rs a (by simp only [fa] at p; omega)
end
def notTup : HO → Bool
  | .lst _ => true
  | .dK _ => true
  | .dT _ => true
  | .ins .. => true
  | .ext _ => true
  | _ => false
mutual
/-- what is owned is no tuple -/
theorem Rep.nt {c : LC} {P H : Hp} : ∀ (d : D) (v : V) (S : FP), Rep c P H d v S → ∀ a, 0 < S a → ∃ o, H a = some o ∧ notTup o = true
  | .gone, v, S, h => fun a p => by rw [show S = fz from h] at p; simp [fz] at p
  | .non, v, S, h => fun a p => by rw [h.2] at p; simp [fz] at p
  | .bl _, v, S, h => fun a p => by rw [h.2] at p; simp [fz] at p
  | .int _, v, S, h => fun a p => by rw [h.2] at p; simp [fz] at p
  | .str _, v, S, h => fun a p => by rw [h.2] at p; simp [fz] at p
  | .scr ns, v, S, ⟨a, e, q, z⟩ => fun b p => by rw [z] at p; simp [fz] at p
  | .kst ss, v, S, ⟨a, e, q, z⟩ => fun b p => by rw [z] at p; simp [fz] at p
  | .key ks, v, S, ⟨a, e, q, z⟩ => fun b p => by rw [z] at p; simp [fz] at p
  | .tup ds, v, S, ⟨a, xs, e, q, r⟩ => RepL.nt ds xs S r
  | .lst true ds, v, S, ⟨a, xs, T, e, q, r, f⟩ => fun b p => by
    by_cases z : b = a
    · rw [z]; exact ⟨_, q, rfl⟩
    · exact RepL.nt ds xs T r b (by rw [f] at p; simpa [fa, one, z] using p)
  | .lst false ds, v, S, ⟨a, xs, e, q, r⟩ => RepL.nt ds xs S r
  | .dK true ks ds, v, S, ⟨a, xs, T, e, q, n, r, f⟩ => fun b p => by
    by_cases z : b = a
    · rw [z]; exact ⟨_, q, rfl⟩
    · exact RepL.nt ds xs T r b (by rw [f] at p; simpa [fa, one, z] using p)
  | .dK false ks ds, v, S, ⟨a, xs, e, q, n, r⟩ => RepL.nt ds xs S r
  | .dT true ks ds, v, S, ⟨a, xs, T, e, q, n, r, f⟩ => fun b p => by
    by_cases z : b = a
    · rw [z]; exact ⟨_, q, rfl⟩
    · exact RepL.nt ds xs T r b (by rw [f] at p; simpa [fa, one, z] using p)
  | .dT false ks ds, v, S, ⟨a, xs, e, q, n, r⟩ => RepL.nt ds xs S r
  | .dN true ks ds, v, S, ⟨a, bs, xs, T, e, q, _, n, r, f⟩ => fun b p => by
    by_cases z : b = a
    · obtain ⟨_, q, _⟩ := q; rw [z]; exact ⟨_, q, rfl⟩
    · exact RepL.nt ds xs T r b (by rw [f] at p; simpa [fa, one, z] using p)
  | .dN false ks ds, v, S, ⟨a, bs, xs, e, q, _, n, r⟩ => RepL.nt ds xs S r
  | .obj true _ fs ds, v, S, ⟨a, dx, xs, T, e, q, n, r, f⟩ => fun b p => by
    by_cases z : b = a
    · rw [z]; exact ⟨_, q, rfl⟩
    · exact RepL.nt ds xs T r b (by rw [f] at p; simpa [fa, one, z] using p)
  | .obj false _ fs ds, v, S, ⟨a, dx, xs, e, q, n, r⟩ => RepL.nt ds xs S r
theorem RepL.nt {c : LC} {P H : Hp} : ∀ (ds : List D) (xs : List V) (S : FP), RepL c P H ds xs S → ∀ a, 0 < S a → ∃ o, H a = some o ∧ notTup o = true
  | [], xs, S, h => fun a p => by rw [h.2] at p; simp [fz] at p
  | d :: ds, xs, S, ⟨y, ys, T, U, e, r, rs, f⟩ => fun a p => by
    rw [f] at p
    by_cases z : 0 < T a
    · exact Rep.nt d y T r a z
    · exact RepL.nt ds ys U rs a (by simp only [fa] at p; omega)
end
theorem sqt_thaw {K : PySem.W.Frag} {H H' : Hp} {a : Addr} {xs : List V} (e : ∀ b o, H b = some o → notTup o = false → H' b = some o) (h : SqT K H a xs) : SqT K H' a xs := by
  rcases h with (h | ⟨o, h⟩) | h
  · exact .inl (.inl (e _ _ h rfl))
  · exact .inl (.inr ⟨o, e _ _ h rfl⟩)
  · exact .inr h
mutual
/-- what holds no frozen list asks of the frozen things for the tuples alone -/
theorem Rep.thaw {c : LC} {P P' H : Hp} (e : ∀ b o, P b = some o → notTup o = false → P' b = some o) : ∀ (d : D) (v : V) (S : FP), noIce d = true → Rep c P H d v S → Rep c P' H d v S
  | .gone, v, S, _, h => h
  | .non, v, S, _, h => h
  | .bl _, v, S, _, h => h
  | .int _, v, S, _, h => h
  | .str _, v, S, _, h => h
  | .scr ns, v, S, n, _ => by simp [noIce] at n
  | .kst ss, v, S, _, ⟨a, e1, q, z⟩ => ⟨a, e1, sqt_thaw e q, z⟩
  | .key ks, v, S, _, ⟨a, e1, q, z⟩ => ⟨a, e1, e _ _ q rfl, z⟩
  | .tup ds, v, S, n, ⟨a, xs, e1, q, r⟩ => ⟨a, xs, e1, sqt_thaw e q, RepL.thaw e ds xs S (by simpa [noIce] using n) r⟩
  | .lst true ds, v, S, n, ⟨a, xs, T, e1, q, r, f⟩ => ⟨a, xs, T, e1, q, RepL.thaw e ds xs T (by simpa [noIce] using n) r, f⟩
  | .lst false ds, v, S, n, _ => by simp [noIce] at n
  | .dK true ks ds, v, S, n, ⟨a, xs, T, e1, q, l, r, f⟩ => ⟨a, xs, T, e1, q, l, RepL.thaw e ds xs T (by simpa [noIce] using n) r, f⟩
  | .dK false ks ds, v, S, n, _ => by simp [noIce] at n
  | .dT true ks ds, v, S, n, ⟨a, xs, T, e1, q, l, r, f⟩ => ⟨a, xs, T, e1, q, l, RepL.thaw e ds xs T (by simpa [noIce] using n) r, f⟩
  | .dT false ks ds, v, S, n, _ => by simp [noIce] at n
  | .dN true ks ds, v, S, n, ⟨a, bs, xs, T, e1, q, z, l, r, f⟩ => ⟨a, bs, xs, T, e1, q, z.mono fun _ _ => sqt_thaw e, l, RepL.thaw e ds xs T (by simpa [noIce] using n) r, f⟩
  | .dN false ks ds, v, S, n, _ => by simp [noIce] at n
  | .obj true _ fs ds, v, S, n, ⟨a, dx, xs, T, e1, q, l, r, f⟩ => ⟨a, dx, xs, T, e1, q, l, RepL.thaw e ds xs T (by simpa [noIce] using n) r, f⟩
  | .obj false _ fs ds, v, S, n, _ => by simp [noIce] at n
theorem RepL.thaw {c : LC} {P P' H : Hp} (e : ∀ b o, P b = some o → notTup o = false → P' b = some o) : ∀ (ds : List D) (xs : List V) (S : FP), noIceL ds = true → RepL c P H ds xs S → RepL c P' H ds xs S
  | [], xs, S, _, h => h
  | d :: ds, xs, S, n, ⟨y, ys, T, U, e1, r, rs, f⟩ => by
    rw [noIceL, Bool.and_eq_true] at n
    exact ⟨y, ys, T, U, e1, Rep.thaw e d y T n.1 r, RepL.thaw e ds ys U n.2 rs, f⟩
end
end LI

namespace LI
open PySem L2

structure En where
  P0 : Hp
  H0 : Hp
  S0 : FP
  kp : List Bool
  vs : List V
  hv : ∀ i : Nat, kp[i]? = some true → ∃ v, vs[i]? = some v
  xw : WX

def RepO (c : LC) (P H : Hp) (d : D) : Option V → FP → Prop
  | some v, T => Rep c P H d v T
  | none, T => d = .gone ∧ T = fz
def RepE (c : LC) (P H : Hp) : List D → St → FP → Prop
  | [], [], S => S = fz
  | d :: ds, ov :: σ, S => ∃ T U, RepO c P H d ov T ∧ RepE c P H ds σ U ∧ S = fa T U
  | _, _, _ => False

structure Wd (c : LC) (E : En) (P : Hp) (S T : FP) (σ : St) (H : Hp) (ρ : List D) : Prop where
  env : RepE c P H ρ σ S
  le : ∀ a, S a + T a ≤ 1
  out : ∀ a, 0 < S a + T a → P a = none
  th : ∀ a, 0 < T a → H a ≠ none
  ph : Ex P H
  p0 : Ex E.P0 P
  fr : ∀ a o, E.S0 a = 0 → E.H0 a = some o → H a = some o
  np : ∀ a, P a ≠ none → E.P0 a ≠ none ∨ 0 < E.S0 a ∨ E.H0 a = none
  ns : ∀ a, 0 < S a + T a → 0 < E.S0 a ∨ E.H0 a = none
  kp : ∀ (i : Nat) (v : V), E.kp[i]? = some true → E.vs[i]? = some v → σ[i]? = some (some v)

structure Gr (P H P' H' : Hp) : Prop where
  p : Ex P P'
  h : Ex H H'
  ph : Ex P' H'
  new : ∀ a, P' a ≠ none → P a ≠ none ∨ H a = none
theorem Gr.refl {P H : Hp} (e : Ex P H) : Gr P H P H := ⟨.refl _, .refl _, e, fun _ h => .inl h⟩
theorem Gr.trans {P H P1 H1 P2 H2 : Hp} (a : Gr P H P1 H1) (b : Gr P1 H1 P2 H2) : Gr P H P2 H2 :=
  ⟨a.p.trans b.p, a.h.trans b.h, b.ph, fun x h => by
    rcases b.new x h with q | q
    · exact a.new x q
    · cases z : H x with
      | none => exact .inr rfl
      | some o => rw [a.h x o z] at q; cases q⟩

theorem RepO.mono {c : LC} {P H P' H' : Hp} (eP : Ex P P') {d : D} {v : Option V} {S : FP} (k : ∀ a o, 0 < S a → H a = some o → H' a = some o) (h : RepO c P H d v S) : RepO c P' H' d v S := by
  cases v with
  | none => exact h
  | some v => exact Rep.mono eP d v S k h
theorem RepE.mono {c : LC} {P H P' H' : Hp} (eP : Ex P P') : ∀ (ρ : List D) (σ : St) (S : FP), (∀ a o, 0 < S a → H a = some o → H' a = some o) → RepE c P H ρ σ S → RepE c P' H' ρ σ S
  | [], [], S, _, h => h
  | d :: ds, v :: σ, S, k, ⟨T, U, r, rs, f⟩ => ⟨T, U, RepO.mono eP (fun b o hb => k b o (by rw [f]; simp only [fa]; omega)) r, RepE.mono eP ds σ U (fun b o hb => k b o (by rw [f]; simp only [fa]; omega)) rs, f⟩
  | [], _ :: _, _, _, h => h.elim
  | _ :: _, [], _, _, h => h.elim
theorem RepO.there {c : LC} {P H : Hp} {d : D} {v : Option V} {S : FP} (h : RepO c P H d v S) : ∀ a, 0 < S a → H a ≠ none := by
  cases v with
  | none => intro a p; rw [h.2] at p; simp [fz] at p
  | some v => exact Rep.there d v S h
theorem RepE.there {c : LC} {P H : Hp} : ∀ (ρ : List D) (σ : St) (S : FP), RepE c P H ρ σ S → ∀ a, 0 < S a → H a ≠ none
  | [], [], S, h => fun a p => by rw [show S = fz from h] at p; simp [fz] at p
  | d :: ds, v :: σ, S, ⟨T, U, r, rs, f⟩ => fun a p => by
    rw [f] at p
    by_cases z : 0 < T a
    · exact r.there a z
    · exact RepE.there ds σ U rs a (by simp only [fa] at p; omega)
  | [], _ :: _, _, h => h.elim
  | _ :: _, [], _, h => h.elim
theorem RepE.len {c : LC} {P H : Hp} : ∀ (ρ : List D) (σ : St) (S : FP), RepE c P H ρ σ S → ρ.length = σ.length
  | [], [], _, _ => rfl
  | _ :: ds, _ :: σ, _, ⟨_, U, _, rs, _⟩ => by simp [RepE.len ds σ U rs]
  | [], _ :: _, _, h => h.elim
  | _ :: _, [], _, h => h.elim

section
variable {c : LC} {E : En} {P P' : Hp} {S T : FP} {σ : St} {H H' : Hp} {ρ : List D}
theorem Wd.grow (w : Wd c E P S T σ H ρ) (g : Gr P H P' H') : Wd c E P' S T σ H' ρ where
  env := w.env.mono g.p ρ σ S (fun a o _ h => g.h a o h)
  le := w.le
  out := fun a h => by
    cases z : P' a with
    | none => rfl
    | some o =>
      rcases g.new a (by rw [z]; simp) with q | q
      · exact absurd (w.out a h) q
      · by_cases hT : 0 < T a
        · exact absurd q (w.th a hT)
        · exact absurd q (RepE.there ρ σ S w.env a (by omega))
  th := fun a h z => by
    cases q : H a with
    | none => exact w.th a h q
    | some o => rw [g.h a o q] at z; cases z
  ph := g.ph
  p0 := w.p0.trans g.p
  fr := fun a o h1 h2 => g.h a o (w.fr a o h1 h2)
  np := fun a h => by
    rcases g.new a h with q | q
    · exact w.np a q
    · cases z : E.H0 a with
      | none => exact .inr (.inr rfl)
      | some o =>
        by_cases hs : E.S0 a = 0
        · rw [w.fr a o hs z] at q; cases q
        · exact .inr (.inl (by omega))
  ns := w.ns
  kp := w.kp
theorem Wd.aside (w : Wd c E P S T σ H ρ) (g : Gr P H P' H') {U : FP} (h1 : ∀ a, U a ≤ 1) (h2 : ∀ a, 0 < U a → H a = none ∧ P' a = none) (h3 : ∀ a, 0 < U a → H' a ≠ none) : Wd c E P' S (fa T U) σ H' ρ := by
  have w' := w.grow g
  have hS : ∀ a, 0 < U a → S a = 0 ∧ T a = 0 := fun a h => by
    have n := (h2 a h).1
    refine ⟨?_, ?_⟩
    · rcases Nat.eq_zero_or_pos (S a) with z | z
      · exact z
      · exact absurd n (RepE.there ρ σ S w.env a z)
    · rcases Nat.eq_zero_or_pos (T a) with z | z
      · exact z
      · exact absurd n (w.th a z)
  refine ⟨w'.env, fun a => ?_, fun a h => ?_, fun a h => ?_, w'.ph, w'.p0, w'.fr, w'.np, fun a h => ?_, w'.kp⟩
  · by_cases z : 0 < U a
    · have := hS a z; have := h1 a; simp only [fa]; omega
    · have := w.le a; simp only [fa]; omega
  · by_cases z : 0 < U a
    · exact (h2 a z).2
    · exact w'.out a (by simp only [fa] at h; omega)
  · by_cases z : 0 < U a
    · exact h3 a z
    · exact w'.th a (by simp only [fa] at h; omega)
  · by_cases z : 0 < U a
    · have n := (h2 a z).1
      cases q : E.H0 a with
      | none => exact .inr rfl
      | some o =>
        by_cases hs : E.S0 a = 0
        · rw [w.fr a o hs q] at n; cases n
        · exact .inl (by omega)
    · exact w'.ns a (by simp only [fa] at h; omega)
end

abbrev RM := List D → Option D
abbrev GM := List D → Option (D × List D)
abbrev BM := List D → Option Bool
abbrev BGM := List D → Option (Bool × List D)
def RQ (c : LC) (P H : Hp) (d : D) (Q : VK) : Prop := ∀ v H' P' U, Gr P H P' H' → Rep c P' H' d v U → Q v H'
def FQ (c : LC) (P H : Hp) (d : D) (Q : VK) : Prop := ∀ v H' P' U, Gr P H P' H' → Rep c P' H' d v U → (∀ a, U a ≤ 1) → (∀ a, 0 < U a → H a = none ∧ P' a = none) → Q v H'
def tR (c : LC) (E : En) (m : RM) : TE := fun σ H Q => ∃ P S T ρ d, Wd c E P S T σ H ρ ∧ m ρ = some d ∧ RQ c P H d Q
def tF (c : LC) (E : En) (m : RM) : TE := fun σ H Q => ∃ P S T ρ d, Wd c E P S T σ H ρ ∧ m ρ = some d ∧ FQ c P H d Q
def tG (c : LC) (E : En) (m : GM) : TE := fun σ H Q => ∃ P S T ρ d ρ', Wd c E P S T σ H ρ ∧ m ρ = some (d, ρ') ∧
  ∀ v H' P' S' U, Wd c E P' S' (fa T U) σ H' ρ' → Ex P P' → Rep c P' H' d v U → (∀ a o, 0 < T a → H a = some o → H' a = some o) → Q v H'
def tT (c : LC) (E : En) (m : BM) : TT := fun σ H Q => ∃ P S T ρ b, Wd c E P S T σ H ρ ∧ m ρ = some b ∧ ∀ H' P', Gr P H P' H' → Q b H'
def tTG (c : LC) (E : En) (m : BGM) : TT := fun σ H Q => ∃ P S T ρ b ρ', Wd c E P S T σ H ρ ∧ m ρ = some (b, ρ') ∧
  ∀ H' P' S', Wd c E P' S' T σ H' ρ' → Ex P P' → (∀ a o, 0 < T a → H a = some o → H' a = some o) → Q b H'

theorem PE_imp {X : Cx} {e : Expr} {t t' : TE} (h : PE X e t) (k : ∀ σ H Q, t' σ H Q → t σ H Q) : PE X e t' := ⟨fun pins s σ H Q I q => h.run pins s σ H Q I (k σ H Q q)⟩
theorem PT_imp {X : Cx} {e : Expr} {t t' : TT} (h : PT X e t) (k : ∀ σ H Q, t' σ H Q → t σ H Q) : PT X e t' := ⟨fun pins s σ H Q I q => h.run pins s σ H Q I (k σ H Q q)⟩
theorem PW_imp {X : Cx} {e : Expr} {t t' : TT} (h : PW X e t) (k : ∀ σ H Q, t' σ H Q → t σ H Q) : PW X e t' := ⟨fun whole pins s σ H Q I q => h.run whole pins s σ H Q I (k σ H Q q)⟩
theorem PA_imp {X : Cx} {e : List Expr} {t t' : TA} (h : PA X e t) (k : ∀ σ H Q, t' σ H Q → t σ H Q) : PA X e t' := ⟨fun pos pins s σ H Q I q => h.run pos pins s σ H Q I (k σ H Q q)⟩
theorem PS_imp {X : Cx} {e : Stmt} {t t' : TS} (h : PS X e t) (k : ∀ D σ H, t' D σ H → t D σ H) : PS X e t' := ⟨fun pins s σ H D I q => h.run pins s σ H D I (k D σ H q)⟩
theorem PSs_imp {X : Cx} {e : List Stmt} {t t' : TS} (h : PSs X e t) (k : ∀ D σ H, t' D σ H → t D σ H) : PSs X e t' := ⟨fun pins s σ H D I q => h.run pins s σ H D I (k D σ H q)⟩

section
variable {c : LC} {E : En} {P P' : Hp} {S T : FP} {σ : St} {H H' : Hp} {ρ : List D} {X : Cx} {e : Expr} {m : RM}
theorem FQ.of_R {d : D} {Q : VK} (h : RQ c P H d Q) : FQ c P H d Q := fun v H' P' U g r _ _ => h v H' P' U g r
theorem FQ.flat {d : D} {v : V} {Q : VK} (h : FQ c P H d Q) (e : Ex P H) (r : Rep c P H d v fz) : Q v H :=
  h v H P fz (.refl e) r (fun _ => Nat.zero_le _) fun a p => by simp [fz] at p
theorem r_f (h : PE X e (tF c E m)) : PE X e (tR c E m) := PE_imp h fun σ H Q ⟨P, S, T, ρ, d, w, hm, q⟩ => ⟨P, S, T, ρ, d, w, hm, .of_R q⟩
def upF (m : RM) : GM := fun ρ => (m ρ).map fun d => (d, ρ)
def upR (m : RM) : GM := fun ρ => (m ρ).bind fun d => if frz d = true then some (d, ρ) else none
theorem g_f (h : PE X e (tF c E m)) : PE X e (tG c E (upF m)) := PE_imp h fun σ H Q ⟨P, S, T, ρ, d, ρ', w, hm, q⟩ => by
  unfold upF at hm
  cases hd : m ρ with
  | none => rw [hd] at hm; cases hm
  | some d1 =>
    rw [hd] at hm
    cases hm
    exact ⟨P, S, T, ρ, d, w, hd, fun v H' P' U g r u1 u2 => q v H' P' S U (w.aside g u1 u2 (Rep.there d v U r)) g.p r fun a o _ h => g.h a o h⟩
theorem g_r (h : PE X e (tR c E m)) : PE X e (tG c E (upR m)) := PE_imp h fun σ H Q ⟨P, S, T, ρ, d, ρ', w, hm, q⟩ => by
  unfold upR at hm
  cases hd : m ρ with
  | none => rw [hd] at hm; cases hm
  | some d1 =>
    rw [hd] at hm
    simp only [Option.bind_some] at hm
    split at hm
    · rename_i hf
      cases hm
      refine ⟨P, S, T, ρ, d, w, hd, fun v H' P' U g r => ?_⟩
      have e := Rep.frz0 d v U hf r
      subst e
      exact q v H' P' S fz (w.aside g (fun _ => Nat.zero_le _) (fun a p => by simp [fz] at p) (fun a p => by simp [fz] at p)) g.p r fun a o _ h => g.h a o h
    · cases hm
def coldM (m : RM) : RM := fun ρ => (m ρ).map ice
theorem f_cold (h : PE X e (tF c E m)) : PE X e (tF c E (coldM m)) := PE_imp h fun σ H Q ⟨P, S, T, ρ, d, w, hm, q⟩ => by
  unfold coldM at hm
  cases hd : m ρ with
  | none => rw [hd] at hm; cases hm
  | some d1 =>
    rw [hd] at hm
    cases hm
    refine ⟨P, S, T, ρ, d1, w, hd, fun v H' P' U g r u1 u2 => ?_⟩
    have r2 : Rep c (fun a => if 0 < U a then H' a else P' a) H' (ice d1) v fz := Rep.ice (fun a o z => by
        by_cases hu : 0 < U a
        · rw [(u2 a hu).2] at z; cases z
        · simp [hu, z]) d1 v U (fun a o hu hh => by simp [hu, hh]) r
    refine q v H' _ fz ⟨fun a o z => ?_, g.h, fun a o z => ?_, fun a z => ?_⟩ r2 (fun _ => Nat.zero_le _) (fun a p => by simp [fz] at p)
    · by_cases hu : 0 < U a
      · have := (u2 a hu).2; rw [g.p a o z] at this; cases this
      · simp [hu, g.p a o z]
    · by_cases hu : 0 < U a
      · simpa [hu] using z
      · exact g.ph a o (by simpa [hu] using z)
    · by_cases hu : 0 < U a
      · exact .inr (u2 a hu).1
      · exact g.new a (by simpa [hu] using z)
end
end LI

namespace LI
open PySem L2

def LIM : Nat := 4000000
theorem lim_le {n : Nat} (h : n ≤ LIM) : n ≤ sizeLine := Nat.le_trans h (by decide)
theorem lim_lt {n : Nat} (h : n < LIM) : n < sizeLine := Nat.lt_of_lt_of_le h (by decide)

theorem RepL.length {c : LC} {P H : Hp} : ∀ {ds : List D} {xs : List V} {S : FP}, RepL c P H ds xs S → ds.length = xs.length
  | [], xs, S, h => by rw [h.1]; rfl
  | d :: ds, xs, S, ⟨y, ys, T, U, e, _, rs, _⟩ => by rw [e]; simp [RepL.length rs]
theorem RepL.append {c : LC} {P H : Hp} : ∀ {ds es : List D} {xs ys : List V} {S T : FP}, RepL c P H ds xs S → RepL c P H es ys T → RepL c P H (ds ++ es) (xs ++ ys) (fa S T)
  | [], es, xs, ys, S, T, h, k => by rw [h.1, h.2, fz_fa]; exact k
  | d :: ds, es, xs, ys, S, T, ⟨y, zs, A, B, e, r, rs, f⟩, k => by
    rw [e, f]
    exact ⟨y, zs ++ ys, A, fa B T, rfl, r, RepL.append rs k, by funext a; simp only [fa]; omega⟩
theorem RepL.get {c : LC} {P H : Hp} : ∀ {ds : List D} {xs : List V} {S : FP} {i : Nat} {d : D}, RepL c P H ds xs S → ds[i]? = some d → ∃ x T, xs[i]? = some x ∧ Rep c P H d x T ∧ ∀ a, T a ≤ S a
  | [], xs, S, i, d, h, e => by simp at e
  | d0 :: ds, xs, S, 0, d, ⟨y, zs, A, B, e, r, rs, f⟩, q => by
    simp at q; subst q
    exact ⟨y, A, by rw [e]; rfl, r, fun a => by rw [f]; simp only [fa]; omega⟩
  | d0 :: ds, xs, S, i + 1, d, ⟨y, zs, A, B, e, r, rs, f⟩, q => by
    obtain ⟨x, T, h1, h2, h3⟩ := RepL.get (i := i) (d := d) rs (by simpa using q)
    exact ⟨x, T, by rw [e]; simpa using h1, h2, fun a => by have := h3 a; rw [f]; simp only [fa]; omega⟩
theorem frzL_iff : ∀ {ds : List D}, frzL ds = true ↔ ∀ d ∈ ds, frz d = true
  | [] => by simp [frzL]
  | d :: ds => by simp [frzL, frzL_iff (ds := ds)]
theorem RepL.drop {c : LC} {P H : Hp} : ∀ {ds : List D} {xs : List V} (n : Nat), RepL c P H ds xs fz → RepL c P H (ds.drop n) (xs.drop n) fz
  | ds, xs, 0, h => h
  | [], xs, n + 1, h => by rw [h.1]; exact ⟨rfl, rfl⟩
  | d :: ds, xs, n + 1, ⟨y, zs, A, B, e, r, rs, f⟩ => by
    have hB : B = fz := by
      funext a
      have := congrFun f a
      simp only [fa, fz] at this ⊢
      omega
    subst hB
    rw [e]
    exact RepL.drop n rs
theorem RepL.take {c : LC} {P H : Hp} : ∀ {ds : List D} {xs : List V} (n : Nat), RepL c P H ds xs fz → RepL c P H (ds.take n) (xs.take n) fz
  | ds, xs, 0, h => ⟨rfl, rfl⟩
  | [], xs, n + 1, h => by rw [h.1]; exact ⟨rfl, rfl⟩
  | d :: ds, xs, n + 1, ⟨y, zs, A, B, e, r, rs, f⟩ => by
    have hB : A = fz ∧ B = fz := by
      refine ⟨?_, ?_⟩ <;> funext a <;> (have := congrFun f a; simp only [fa, fz] at this ⊢; omega)
    obtain ⟨rfl, rfl⟩ := hB
    rw [e]
    exact ⟨y, zs.take n, fz, fz, rfl, r, RepL.take n rs, (fa_fz fz).symm⟩
theorem RepL.rep {c : LC} {P H : Hp} {ds : List D} {xs : List V} (h : RepL c P H ds xs fz) : ∀ n : Nat, RepL c P H (List.replicate n ds).flatten (List.replicate n xs).flatten fz
  | 0 => ⟨rfl, rfl⟩
  | n + 1 => by
    have := RepL.append h (RepL.rep h n)
    rw [fa_fz] at this
    simpa [List.replicate_succ] using this

section
variable {c : LC} {P H : Hp} {Q : VK}
theorem none_of {a : Addr} (e : Ex P H) (h : H a = none) : P a = none := by
  cases z : P a with
  | none => rfl
  | some o => rw [e a o z] at h; cases h
theorem ex_new {p : Addr} {o : HO} (h : H p = none) : Ex H (upd H p o) := fun a u e => by
  rw [upd_ne (ne_of_none e h)]; exact e
theorem one_le {p : Addr} : ∀ a, one p a ≤ 1 := fun a => by unfold one; split <;> omega
theorem one_pos {p a : Addr} (h : 0 < one p a) : a = p := by unfold one at h; split at h <;> first | assumption | omega
theorem FQ.lst {ds : List D} {xs : List V} (h : FQ c P H (.lst true ds) Q) (e : Ex P H) (r : RepL c P H ds xs fz) : ∀ p, H p = none → Q (.ref p) (upd H p (.lst xs)) := fun p hp => by
  refine h _ _ P (one p) ⟨.refl _, ex_new hp, e.trans (ex_new hp), fun _ z => .inl z⟩ ⟨p, xs, fz, rfl, upd_same, RepL.mono (.refl _) ds xs fz (fun a o z _ => by simp [fz] at z) r, (fa_fz _).symm⟩ one_le fun a z => ?_
  rw [one_pos z]
  exact ⟨hp, none_of e hp⟩
theorem FQ.tup {ds : List D} {xs : List V} (h : FQ c P H (.tup ds) Q) (e : Ex P H) (r : RepL c P H ds xs fz) : ∀ p, H p = none → Q (.ref p) (upd H p (.tup xs)) := fun p hp => by
  have hP := none_of e hp
  refine h _ _ (upd P p (.tup xs)) fz ⟨ex_new hP, ex_new hp, fun a o z => ?_, fun a z => ?_⟩ ⟨p, xs, rfl, .inl (.inl upd_same), RepL.mono (ex_new hP) ds xs fz (fun a o z _ => by simp [fz] at z) r⟩ (fun _ => Nat.zero_le _) (fun a z => by simp [fz] at z)
  · by_cases q : a = p
    · subst q; rw [upd_same] at z ⊢; exact z
    · rw [upd_ne q] at z ⊢; exact e a o z
  · by_cases q : a = p
    · subst q; exact .inr hp
    · rw [upd_ne q] at z; exact .inl z
theorem FQ.grow {P2 H2 : Hp} {d : D} (h : FQ c P H d Q) (g : Gr P H P2 H2) : FQ c P2 H2 d Q := fun v H' P' U g2 r u1 u2 => h v H' P' U (g.trans g2) r u1 fun a z => by
  obtain ⟨n1, n2⟩ := u2 a z
  refine ⟨?_, n2⟩
  cases q : H a with
  | none => rfl
  | some o => rw [g.h a o q] at n1; cases n1
theorem Rep.gr {P2 H2 : Hp} {d : D} {v : V} {S : FP} (r : Rep c P H d v S) (g : Gr P H P2 H2) : Rep c P2 H2 d v S := Rep.mono g.p d v S (fun a o _ h => g.h a o h) r
theorem RepL.gr {P2 H2 : Hp} {d : List D} {v : List V} {S : FP} (r : RepL c P H d v S) (g : Gr P H P2 H2) : RepL c P2 H2 d v S := RepL.mono g.p d v S (fun a o _ h => g.h a o h) r
end

def m2 (f : D → D → Option D) (ma mb : RM) : RM := fun ρ => (ma ρ).bind fun x => (mb ρ).bind fun y => f x y
def m1 (f : D → Option D) (ma : RM) : RM := fun ρ => (ma ρ).bind f
def Op2 (c : LC) (r : R2) (f : D → D → Option D) : Prop := ∀ (P H : Hp), Ex P H → ∀ da db d x y U1 U2, f da db = some d → Rep c P H da x U1 → Rep c P H db y U2 → ∀ Q, FQ c P H d Q → r x y H Q
section
variable {X : Cx} {cl : Nat → Addr} {E : En} {a b : Expr} {pos : Pos} {ma mb : RM} {r : R2} {f : D → D → Option D}
theorem op2_run (hf : Op2 ⟨X.K, cl, X.w⟩ r f) {σ : L2.St} {H : Hp} {Q : VK} (h : tF ⟨X.K, cl, X.w⟩ E (m2 f ma mb) σ H Q) : tOp r (tR ⟨X.K, cl, X.w⟩ E ma) (tR ⟨X.K, cl, X.w⟩ E mb) σ H Q := by
  obtain ⟨P, S, T, ρ, d, w, hm, q⟩ := h
  unfold m2 at hm
  cases ea : ma ρ with
  | none => rw [ea] at hm; cases hm
  | some da =>
    cases eb : mb ρ with
    | none => rw [ea, eb] at hm; cases hm
    | some db =>
      rw [ea, eb] at hm
      refine ⟨P, S, T, ρ, da, w, ea, fun x H1 P1 U1 g1 r1 => ⟨P1, S, T, ρ, db, w.grow g1, eb, fun y H2 P2 U2 g2 r2 => ?_⟩⟩
      exact hf P2 H2 g2.ph _ _ _ _ _ _ _ hm (r1.gr g2) r2 Q (q.grow (g1.trans g2))
theorem f_bin {op : Operator} (ho : OpR X (binaryOp op) r) (hf : Op2 ⟨X.K, cl, X.w⟩ r f) (ha : PE X a (tR ⟨X.K, cl, X.w⟩ E ma)) (hb : PE X b (tR ⟨X.K, cl, X.w⟩ E mb)) : PE X (.BinOp a op b pos) (tF ⟨X.K, cl, X.w⟩ E (m2 f ma mb)) :=
  PE_imp (pe_op ho ha hb) fun _ _ _ h => op2_run hf h
def bM (m : RM) : BM := fun ρ => (m ρ).bind fun d => match d with | .bl b => some b | _ => none
theorem bM_some {m : RM} {ρ : List D} {b : Bool} (h : bM m ρ = some b) : m ρ = some (.bl b) := by
  unfold bM at h
  cases e : m ρ with
  | none => rw [e] at h; cases h
  | some d =>
    rw [e] at h
    cases d with
    | bl k => simp at h; rw [h]
    | _ => simp at h
theorem t_test {e : Expr} {m : RM} {t : TE} (h : PT X e (tTest t)) (k : ∀ σ H Q, tF ⟨X.K, cl, X.w⟩ E m σ H Q → t σ H Q) : PT X e (tT ⟨X.K, cl, X.w⟩ E (bM m)) :=
  PT_imp h fun σ H Q ⟨P, S, T, ρ, b, w, hm, q⟩ => k σ H _ ⟨P, S, T, ρ, .bl b, w, bM_some hm, fun v H' P' U g r _ _ => ⟨b, r.1, q H' P' g⟩⟩
theorem t_cmp {op : CmpOp} (ho : OpR X (compareOp op) r) (hf : Op2 ⟨X.K, cl, X.w⟩ r f) (ha : PE X a (tR ⟨X.K, cl, X.w⟩ E ma)) (hb : PE X b (tR ⟨X.K, cl, X.w⟩ E mb)) (hm : behindInMarks op b = false) : PT X (.Compare a [op] [b] pos) (tT ⟨X.K, cl, X.w⟩ E (bM (m2 f ma mb))) :=
  t_test (pt_cmpR ho ha hb hm) fun _ _ _ h => op2_run hf h
end
theorem OpR_or {X : Cx} {g : Value → Value → Sem Value} {r r' : R2} (h : OpR X g r) (h' : OpR X g r') : OpR X g (fun x y H Q => r x y H Q ∨ r' x y H Q) := fun pins s σ H x y v u Q I rx ry q => q.elim (h pins s σ H x y v u Q I rx ry) (h' pins s σ H x y v u Q I rx ry)

def addD : D → D → Option D
  | .int a, .int b => some (.int (a + b))
  | .str a, .str b => if a.length + b.length ≤ LIM then some (.str (a ++ b)) else none
  | .lst _ a, .lst _ b => if (frzL a && frzL b) = true ∧ a.length + b.length ≤ LIM then some (.lst true (a ++ b)) else none
  | .tup a, .tup b => if (frzL a && frzL b) = true ∧ a.length + b.length ≤ LIM then some (.tup (a ++ b)) else none
  | _, _ => none
def rAddA (K : PySem.W.Frag) : R2 := fun x y H Q => (rI0 (fun i j => .int (i + j))) x y H Q ∨ (∃ i j, x = .str i ∧ y = .str j ∧ i.length + j.length ≤ sizeLine ∧ Q (.str (i ++ j)) H) ∨ rCat x y H Q ∨ rCatA K x y H Q
section
variable {X : Cx} {c : LC}
theorem opr_add : OpR X (binaryOp .Add) (rAddA X.K) := OpR_or op_add (OpR_or op_add_str (OpR_or op_cat op_catA))
theorem lst_heap {P H : Hp} (e : Ex P H) {o : Bool} {ds : List D} {v : V} {U : FP} (r : Rep c P H (.lst o ds) v U) : ∃ a xs T, v = .ref a ∧ H a = some (.lst xs) ∧ RepL c P H ds xs T ∧ ∀ a, T a ≤ U a := by
  cases o with
  | true =>
    obtain ⟨a, xs, T, e1, h, rl, f⟩ := r
    exact ⟨a, xs, T, e1, h, rl, fun b => by rw [f]; simp only [fa]; omega⟩
  | false =>
    obtain ⟨a, xs, e1, h, rl⟩ := r
    exact ⟨a, xs, U, e1, e _ _ h, rl, fun _ => Nat.le_refl _⟩
theorem lst_heap0 {P H : Hp} (e : Ex P H) {o : Bool} {ds : List D} {v : V} {U : FP} (r : Rep c P H (.lst o ds) v U) (hf : frzL ds = true) : ∃ a xs, v = .ref a ∧ H a = some (.lst xs) ∧ RepL c P H ds xs fz := by
  obtain ⟨a, xs, T, e1, h, rl, _⟩ := lst_heap e r
  have z := RepL.frz0 ds xs T hf rl
  subst z
  exact ⟨a, xs, e1, h, rl⟩
theorem tup_heap0 {P H : Hp} (e : Ex P H) {ds : List D} {v : V} {U : FP} (r : Rep c P H (.tup ds) v U) (hf : frzL ds = true) : ∃ a xs, v = .ref a ∧ SqT c.K H a xs ∧ SqT c.K P a xs ∧ RepL c P H ds xs fz := by
  obtain ⟨a, xs, e1, h, rl⟩ := r
  have z := RepL.frz0 ds xs U hf rl
  subst z
  exact ⟨a, xs, e1, sqt_mono e h, h, rl⟩
theorem str_app (a b : List Nat) : (⟨a.toArray⟩ : Str) ++ (⟨b.toArray⟩ : Str) = ⟨(a ++ b).toArray⟩ := by
  show (Str.mk (a.toArray ++ b.toArray)) = _
  simp
theorem str_len (a : List Nat) : (⟨a.toArray⟩ : Str).length = a.length := by
  show a.toArray.size = _
  simp
theorem op_addD : Op2 c (rAddA c.K) addD := by
  intro P H e da db d x y U1 U2 hf r1 r2 Q q
  unfold addD at hf
  split at hf
  · rename_i a b
    cases hf
    exact .inl ⟨a, b, r1.1, r2.1, q.flat e ⟨rfl, rfl⟩⟩
  · rename_i a b
    split at hf
    · rename_i hl
      cases hf
      refine .inr (.inl ⟨_, _, r1.1, r2.1, ?_, ?_⟩)
      · rw [str_len, str_len]; exact lim_le hl
      · rw [str_app]; exact q.flat e ⟨rfl, rfl⟩
    · cases hf
  · rename_i o1 a o2 b
    split at hf
    · rename_i hl
      obtain ⟨hz, hl⟩ := hl
      simp only [Bool.and_eq_true] at hz
      cases hf
      obtain ⟨p1, xs, rfl, h1, l1⟩ := lst_heap0 e r1 hz.1
      obtain ⟨p2, ys, rfl, h2, l2⟩ := lst_heap0 e r2 hz.2
      refine .inr (.inr (.inl ⟨p1, p2, xs, ys, rfl, rfl, h1, h2, ?_, q.lst e ?_⟩))
      · rw [← l1.length, ← l2.length]; exact lim_le hl
      · have := l1.append l2; rwa [fa_fz] at this
    · cases hf
  · rename_i a b
    split at hf
    · rename_i hl
      obtain ⟨hz, hl⟩ := hl
      simp only [Bool.and_eq_true] at hz
      cases hf
      obtain ⟨p1, xs, rfl, h1, h1', l1⟩ := tup_heap0 e r1 hz.1
      obtain ⟨p2, ys, rfl, h2, h2', l2⟩ := tup_heap0 e r2 hz.2
      have ll := l1.append l2
      rw [fa_fz] at ll
      refine .inr (.inr (.inr ⟨p1, p2, xs, ys, rfl, rfl, h1, h2, ?_, ?_⟩))
      · rw [← l1.length, ← l2.length]; exact lim_le hl
      · refine ⟨fun z => ?_, fun _ z => ?_, fun _ _ => q.tup e ll⟩
        · subst z
          have h0 : a = [] := by have := l1.length; simpa using this
          subst h0
          exact q.flat e ⟨p2, ys, rfl, h2', l2⟩
        · subst z
          have h0 : b = [] := by have := l2.length; simpa using this
          subst h0
          exact q.flat e ⟨p1, xs, rfl, h1', by simpa using l1⟩
    · cases hf
  · cases hf

theorem op_i0 {g : Int → Int → V} {gd : Int → Int → D} {f : D → D → Option D} (hf : ∀ a b d, f a b = some d → ∃ i j, a = .int i ∧ b = .int j ∧ d = gd i j) (hg : ∀ (P H : Hp) i j, Rep c P H (gd i j) (g i j) fz) : Op2 c (rI0 g) f := by
  intro P H e da db d x y U1 U2 h r1 r2 Q q
  obtain ⟨i, j, rfl, rfl, rfl⟩ := hf _ _ _ h
  exact ⟨i, j, r1.1, r2.1, q.flat e (hg P H i j)⟩
theorem op_i {C : Int → Int → Prop} {g : Int → Int → V} {gd : Int → Int → D} {f : D → D → Option D} (hf : ∀ a b d, f a b = some d → ∃ i j, a = .int i ∧ b = .int j ∧ d = gd i j ∧ C i j) (hg : ∀ (P H : Hp) i j, Rep c P H (gd i j) (g i j) fz) : Op2 c (rI C g) f := by
  intro P H e da db d x y U1 U2 h r1 r2 Q q
  obtain ⟨i, j, rfl, rfl, rfl, hc⟩ := hf _ _ _ h
  exact ⟨i, j, r1.1, r2.1, hc, q.flat e (hg P H i j)⟩
def subD : D → D → Option D
  | .int a, .int b => some (.int (a - b))
  | _, _ => none
theorem op_subD : Op2 c (rI0 fun i j => .int (i - j)) subD := op_i0 (gd := fun i j => .int (i - j)) (fun a b d h => by
  unfold subD at h; split at h
  · cases h; exact ⟨_, _, rfl, rfl, rfl⟩
  · cases h) fun _ _ _ _ => ⟨rfl, rfl⟩
def fdivD : D → D → Option D
  | .int a, .int b => if 0 < b ∧ b.natAbs.log2 < 9000 then some (.int (a / b)) else none
  | _, _ => none
theorem op_fdivD : Op2 c (rI CDivW fun i j => .int (i / j)) fdivD := op_i (gd := fun i j => .int (i / j)) (fun a b d h => by
  unfold fdivD at h; split at h
  · split at h
    · cases h; exact ⟨_, _, rfl, rfl, rfl, by assumption⟩
    · cases h
  · cases h) fun _ _ _ _ => ⟨rfl, rfl⟩
def modD : D → D → Option D
  | .int a, .int b => if 0 < b then some (.int (a % b)) else none
  | _, _ => none
theorem op_modD : Op2 c (rI (fun _ j => 0 < j) fun i j => .int (i % j)) modD := op_i (gd := fun i j => .int (i % j)) (fun a b d h => by
  unfold modD at h; split at h
  · split at h
    · cases h; exact ⟨_, _, rfl, rfl, rfl, by assumption⟩
    · cases h
  · cases h) fun _ _ _ _ => ⟨rfl, rfl⟩
def powD : D → D → Option D
  | .int a, .int b => if 0 ≤ b ∧ b ≤ 1000000 ∧ a.natAbs < 2 ^ 64 then some (.int (a ^ b.toNat)) else none
  | _, _ => none
theorem op_powD : Op2 c (rI CPow fun i j => .int (i ^ j.toNat)) powD := op_i (gd := fun i j => .int (i ^ j.toNat)) (fun a b d h => by
  unfold powD at h; split at h
  · split at h
    · cases h; exact ⟨_, _, rfl, rfl, rfl, by assumption⟩
    · cases h
  · cases h) fun _ _ _ _ => ⟨rfl, rfl⟩

def mulD : D → D → Option D
  | .int a, .int b => if (-(2 ^ 64) < a ∧ a < 2 ^ 64) ∨ (-(2 ^ 64) < b ∧ b < 2 ^ 64) then some (.int (a * b)) else none
  | .lst _ a, .int k => if frzL a = true ∧ k ≤ 1000000 ∧ -1000000 ≤ k ∧ a.length * k.toNat ≤ LIM then some (.lst true (List.replicate k.toNat a).flatten) else none
  | .str a, .int k => if k ≤ 1000000 ∧ -1000000 ≤ k ∧ a.length * k.toNat ≤ LIM then some (.str (List.replicate k.toNat a).flatten) else none
  | _, _ => none
def rRepS : R2 := fun x y H Q => ∃ z k, x = .str z ∧ y = .int k ∧ MulOk z k ∧ Q (.str (Txt.mul z k)) H
theorem op_repS : OpR X (binaryOp .Mult) rRepS := by
  intro pins s σ H x y v u Q I rx ry h
  obtain ⟨z, k, rfl, rfl, hk, q⟩ := h
  obtain ⟨t, rfl⟩ := rx
  obtain ⟨t', rfl⟩ := ry
  exact PySem.SB.mul hk fun t' k => ⟨.str _, H, I.tok _, ⟨_, rfl⟩, q⟩
def rMulA : R2 := fun x y H Q => rI CMul (fun i j => .int (i * j)) x y H Q ∨ rRep x y H Q ∨ rRepS x y H Q
theorem opr_mul : OpR X (binaryOp .Mult) rMulA := OpR_or op_mul (OpR_or op_rep op_repS)
theorem foldl_app (a : Array Nat) : ∀ (n : Nat) (b : Array Nat), (List.replicate n a).foldl (· ++ ·) b = (b.toList ++ (List.replicate n a.toList).flatten).toArray
  | 0, b => by simp
  | n + 1, b => by
    rw [List.replicate_succ, List.foldl_cons, foldl_app a n]
    simp [List.replicate_succ]
theorem str_mul {a : List Nat} {k : Int} (h1 : k ≤ 1000000) (h2 : -1000000 ≤ k) (h3 : a.length * k.toNat ≤ LIM) : MulOk ⟨a.toArray⟩ k ∧ Txt.mul ⟨a.toArray⟩ k = ⟨(List.replicate k.toNat a).flatten.toArray⟩ := by
  refine ⟨⟨?_, fun n1 n2 => ?_, fun n1 n2 => ?_⟩, ?_⟩
  · rw [Bool.or_eq_false_iff, decide_eq_false_iff_not, decide_eq_false_iff_not]; omega
  · rw [str_len]
    have h4 : (a.length : Int) * k ≤ 2 ^ 63 - 1 := by
      have e1 : (k.toNat : Int) = k := by omega
      have e2 : ((a.length * k.toNat : Nat) : Int) = (a.length : Int) * k := by rw [Int.natCast_mul, e1]
      unfold LIM at h3
      omega
    have := Int.le_ediv_of_mul_le (by omega) h4
    omega
  · rw [str_len]
    have := lim_le h3
    unfold Builtin.Str.tooLong
    simp; omega
  · unfold Txt.mul
    by_cases n1 : k < 1
    · rw [if_pos n1, show k.toNat = 0 by omega]; rfl
    · rw [if_neg n1]
      by_cases n2 : (k == 1 || (⟨a.toArray⟩ : Str).length == 0) = true
      · rw [if_pos n2]
        rw [str_len] at n2
        simp only [Bool.or_eq_true, beq_iff_eq] at n2
        rcases n2 with n2 | n2
        · subst n2; simp
        · have : a = [] := List.length_eq_zero_iff.mp n2
          subst this; simp
      · rw [if_neg n2, foldl_app]; simp
theorem op_mulD : Op2 c rMulA mulD := by
  intro P H e da db d x y U1 U2 hf r1 r2 Q q
  unfold mulD at hf
  split at hf
  · rename_i a b
    split at hf
    · rename_i hc
      cases hf
      exact .inl ⟨a, b, r1.1, r2.1, hc, q.flat e ⟨rfl, rfl⟩⟩
    · cases hf
  · rename_i o a k
    split at hf
    · rename_i hl
      obtain ⟨hz, h1, h2, h3⟩ := hl
      cases hf
      obtain ⟨p1, xs, rfl, hh, l1⟩ := lst_heap0 e r1 hz
      refine .inr (.inl ⟨p1, k, xs, rfl, r2.1, hh, by omega, by omega, ?_, q.lst e (l1.rep _)⟩)
      rw [← l1.length]; exact lim_le h3
    · cases hf
  · rename_i a k
    split at hf
    · rename_i hl
      obtain ⟨h1, h2, h3⟩ := hl
      cases hf
      obtain ⟨m1, m2⟩ := str_mul h1 h2 h3
      exact .inr (.inr ⟨_, k, r1.1, r2.1, m1, by rw [m2]; exact q.flat e ⟨rfl, rfl⟩⟩)
    · cases hf
  · cases hf

def cmpD (fi : Int → Int → Bool) (fs : List Nat → List Nat → Bool) : D → D → Option D
  | .int a, .int b => some (.bl (fi a b))
  | .str a, .str b => some (.bl (fs a b))
  | _, _ => none
theorem op_cmpD {fi : Int → Int → Bool} {fs : List Nat → List Nat → Bool} : Op2 c (fun x y H Q => rI0 (fun i j => .bl (fi i j)) x y H Q ∨ ∃ i j, x = .str i ∧ y = .str j ∧ Q (.bl (fs i.cps.toList j.cps.toList)) H) (cmpD fi fs) := by
  intro P H e da db d x y U1 U2 hf r1 r2 Q q
  unfold cmpD at hf
  split at hf
  · cases hf
    exact .inl ⟨_, _, r1.1, r2.1, q.flat e ⟨rfl, rfl⟩⟩
  · rename_i a b
    cases hf
    exact .inr ⟨_, _, r1.1, r2.1, q.flat e ⟨by simp, rfl⟩⟩
  · cases hf
def ltD : D → D → Option D := cmpD (fun i j => decide (i < j)) fun i j => decide (i < j)
def leD : D → D → Option D := cmpD (fun i j => decide (i ≤ j)) fun i j => !decide (j < i)
def gtD : D → D → Option D := cmpD (fun i j => decide (j < i)) fun i j => decide (j < i)
def geD : D → D → Option D := cmpD (fun i j => decide (j ≤ i)) fun i j => !decide (i < j)
theorem opr_lt : OpR X (compareOp .Lt) (fun x y H Q => rI0 (fun i j => .bl (decide (i < j))) x y H Q ∨ ∃ i j, x = .str i ∧ y = .str j ∧ Q (.bl (decide (i.cps.toList < j.cps.toList))) H) := OpR_or op_lt op_lt_str
theorem opr_le : OpR X (compareOp .LtE) (fun x y H Q => rI0 (fun i j => .bl (decide (i ≤ j))) x y H Q ∨ ∃ i j, x = .str i ∧ y = .str j ∧ Q (.bl (!decide (j.cps.toList < i.cps.toList))) H) := OpR_or op_le op_le_str
theorem opr_gt : OpR X (compareOp .Gt) (fun x y H Q => rI0 (fun i j => .bl (decide (j < i))) x y H Q ∨ ∃ i j, x = .str i ∧ y = .str j ∧ Q (.bl (decide (j.cps.toList < i.cps.toList))) H) := OpR_or op_gt op_gt_str
def keyP : Key → PyData
  | .inl i => .int i
  | .inr s => .str s
mutual
def toP : D → Option PyData
  | .non => some .none
  | .bl b => some (.bool b)
  | .int i => some (.int i)
  | .str s => some (.str ⟨s.toArray⟩)
  | .scr ns => some (.list (ns.map .int))
  | .kst ss => some (.tuple (ss.map fun s => .str ⟨s.toArray⟩))
  | .key ks => some (.tuple (ks.map keyP))
  | .tup ds => (toPL ds).map .tuple
  | .lst _ ds => (toPL ds).map .list
  | _ => none
def toPL : List D → Option (List PyData)
  | [] => some []
  | d :: ds => (toP d).bind fun p => (toPL ds).map fun ps => p :: ps
end
theorem dp_scr {K : PySem.W.Frag} {H : Hp} : ∀ ns : List Int, DpAll K H (ns.map V.int) (ns.map PyData.int)
  | [] => .nil
  | n :: ns => .cons (.int n) (dp_scr ns)
theorem dp_kst {K : PySem.W.Frag} {H : Hp} : ∀ ss : List (List Nat), DpAll K H (ss.map fun s => V.str ⟨s.toArray⟩) (ss.map fun s => PyData.str ⟨s.toArray⟩)
  | [] => .nil
  | s :: ss => .cons (.str _) (dp_kst ss)
theorem dp_key {K : PySem.W.Frag} {H : Hp} : ∀ ks : List Key, DpAll K H (ks.map kV) (ks.map keyP)
  | [] => .nil
  | .inl i :: ks => .cons (.int i) (dp_key ks)
  | .inr s :: ks => .cons (.str s) (dp_key ks)
mutual
theorem dp_of {P H : Hp} (e : Ex P H) : ∀ (d : D) (v : V) (U : FP) (p : PyData), toP d = some p → Rep c P H d v U → Dp c.K H v p
  | .non, v, U, p, h, r => by cases h; rw [r.1]; exact .non
  | .bl b, v, U, p, h, r => by cases h; rw [r.1]; exact .bl b
  | .int b, v, U, p, h, r => by cases h; rw [r.1]; exact .int b
  | .str b, v, U, p, h, r => by cases h; rw [r.1]; exact .str _
  | .scr ns, v, U, p, h, ⟨a, e1, q, _⟩ => by cases h; rw [e1]; exact .lst (sql_mono e q) (dp_scr ns)
  | .kst ss, v, U, p, h, ⟨a, e1, q, _⟩ => by cases h; rw [e1]; exact .tup (sqt_mono e q) (dp_kst ss)
  | .key ks, v, U, p, h, ⟨a, e1, q, _⟩ => by cases h; rw [e1]; exact .tup (.inl (.inl (e _ _ q))) (dp_key ks)
  | .tup ds, v, U, p, h, ⟨a, xs, e1, q, r⟩ => by
    unfold toP at h
    cases z : toPL ds with
    | none => rw [z] at h; cases h
    | some ps => rw [z] at h; cases h; rw [e1]; exact .tup (sqt_mono e q) (dp_all e ds xs U ps z r)
  | .lst true ds, v, U, p, h, ⟨a, xs, T, e1, q, r, _⟩ => by
    unfold toP at h
    cases z : toPL ds with
    | none => rw [z] at h; cases h
    | some ps => rw [z] at h; cases h; rw [e1]; exact .lst (.inl (.inl q)) (dp_all e ds xs T ps z r)
  | .lst false ds, v, U, p, h, ⟨a, xs, e1, q, r⟩ => by
    unfold toP at h
    cases z : toPL ds with
    | none => rw [z] at h; cases h
    | some ps => rw [z] at h; cases h; rw [e1]; exact .lst (.inl (.inl (e _ _ q))) (dp_all e ds xs U ps z r)
  | .gone, _, _, _, h, _ => by cases h
  | .dK .., _, _, _, h, _ => by cases h
  | .dT .., _, _, _, h, _ => by cases h
  | .dN .., _, _, _, h, _ => by cases h
  | .obj .., _, _, _, h, _ => by cases h
theorem dp_all {P H : Hp} (e : Ex P H) : ∀ (ds : List D) (vs : List V) (U : FP) (ps : List PyData), toPL ds = some ps → RepL c P H ds vs U → DpAll c.K H vs ps
  | [], vs, U, ps, h, r => by cases h; rw [r.1]; exact .nil
  | d :: ds, vs, U, ps, h, ⟨y, ys, T, T2, e1, r, rs, _⟩ => by
    unfold toPL at h
    cases z : toP d with
    | none => rw [z] at h; cases h
    | some q =>
      cases z2 : toPL ds with
      | none => rw [z, z2] at h; cases h
      | some qs => rw [z, z2] at h; cases h; rw [e1]; exact .cons (dp_of e d y T q z r) (dp_all e ds ys T2 qs z2 rs)
end
def eqB (a b : D) : Option Bool := (toP a).bind fun p => (toP b).bind fun q => if SeqAt.shaped p = true ∧ SeqAt.shaped q = true then some (PyData.eqv p q) else none
def eqD (a b : D) : Option D := (eqB a b).map .bl
def neD (a b : D) : Option D := (eqB a b).map fun k => .bl (!k)
theorem eqB_dp {P H : Hp} (e : Ex P H) {a b : D} {x y : V} {U1 U2 : FP} {k : Bool} (h : eqB a b = some k) (r1 : Rep c P H a x U1) (r2 : Rep c P H b y U2) :
    ∃ p q, Dp c.K H x p ∧ Dp c.K H y q ∧ SeqAt.shaped p = true ∧ SeqAt.shaped q = true ∧ PyData.eqv p q = k := by
  unfold eqB at h
  cases z1 : toP a with
  | none => rw [z1] at h; cases h
  | some p =>
    cases z2 : toP b with
    | none => rw [z1, z2] at h; cases h
    | some q =>
      rw [z1, z2] at h
      simp only [Option.bind_some] at h
      split at h
      · rename_i hs
        cases h
        exact ⟨p, q, dp_of e _ _ _ _ z1 r1, dp_of e _ _ _ _ z2 r2, hs.1, hs.2, rfl⟩
      · cases h
theorem op_eqqD : Op2 c (rEqD c.K) eqD := by
  intro P H e da db d x y U1 U2 hf r1 r2 Q q
  unfold eqD at hf
  cases z : eqB da db with
  | none => rw [z] at hf; cases hf
  | some k =>
    rw [z] at hf; cases hf
    obtain ⟨p, p2, d1, d2, s1, s2, rfl⟩ := eqB_dp e z r1 r2
    exact ⟨p, p2, d1, d2, s1, s2, q.flat e ⟨rfl, rfl⟩⟩
theorem op_neqD : Op2 c (rNeD c.K) neD := by
  intro P H e da db d x y U1 U2 hf r1 r2 Q q
  unfold neD at hf
  cases z : eqB da db with
  | none => rw [z] at hf; cases hf
  | some k =>
    rw [z] at hf; cases hf
    obtain ⟨p, p2, d1, d2, s1, s2, rfl⟩ := eqB_dp e z r1 r2
    exact ⟨p, p2, d1, d2, s1, s2, q.flat e ⟨rfl, rfl⟩⟩

def isNo : D → Option Bool
  | .non => some true
  | .gone => none
  | _ => some false
def nisD : D → D → Option D
  | a, .non => (isNo a).map fun k => .bl (!k)
  | .bl a, .bl b => some (.bl (!(a == b)))
  | _, _ => none
theorem isNo_v {P H : Hp} : ∀ {a : D} {x : V} {U : FP} {k : Bool}, isNo a = some k → Rep c P H a x U → decide (x = .non) = k
  | .non, x, U, k, h, r => by cases h; rw [r.1]; rfl
  | .bl _, x, U, k, h, r => by cases h; rw [r.1]; rfl
  | .int _, x, U, k, h, r => by cases h; rw [r.1]; rfl
  | .str _, x, U, k, h, r => by cases h; rw [r.1]; rfl
  | .scr _, x, U, k, h, ⟨_, e, _⟩ => by cases h; rw [e]; rfl
  | .kst _, x, U, k, h, ⟨_, e, _⟩ => by cases h; rw [e]; rfl
  | .key _, x, U, k, h, ⟨_, e, _⟩ => by cases h; rw [e]; rfl
  | .tup _, x, U, k, h, ⟨_, _, e, _⟩ => by cases h; rw [e]; rfl
  | .lst true _, x, U, k, h, ⟨_, _, _, e, _⟩ => by cases h; rw [e]; rfl
  | .lst false _, x, U, k, h, ⟨_, _, e, _⟩ => by cases h; rw [e]; rfl
  | .dK true _ _, x, U, k, h, ⟨_, _, _, e, _⟩ => by cases h; rw [e]; rfl
  | .dK false _ _, x, U, k, h, ⟨_, _, e, _⟩ => by cases h; rw [e]; rfl
  | .dT true _ _, x, U, k, h, ⟨_, _, _, e, _⟩ => by cases h; rw [e]; rfl
  | .dT false _ _, x, U, k, h, ⟨_, _, e, _⟩ => by cases h; rw [e]; rfl
  | .dN true _ _, x, U, k, h, ⟨_, _, _, _, e, _⟩ => by cases h; rw [e]; rfl
  | .dN false _ _, x, U, k, h, ⟨_, _, _, e, _⟩ => by cases h; rw [e]; rfl
  | .obj true _ _ _, x, U, k, h, ⟨_, _, _, _, e, _⟩ => by cases h; rw [e]; rfl
  | .obj false _ _ _, x, U, k, h, ⟨_, _, _, e, _⟩ => by cases h; rw [e]; rfl
theorem opr_nis : OpR X (compareOp .IsNot) (fun x y H Q => (y = .non ∧ Q (.bl (!decide (x = .non))) H) ∨ rNotB x y H Q) := OpR_or op_notN op_notBl
theorem op_nisD : Op2 c (fun x y H Q => (y = .non ∧ Q (.bl (!decide (x = .non))) H) ∨ rNotB x y H Q) nisD := by
  intro P H e da db d x y U1 U2 hf r1 r2 Q q
  unfold nisD at hf
  split at hf
  · cases z : isNo da with
    | none => rw [z] at hf; cases hf
    | some k =>
      rw [z] at hf; cases hf
      exact .inl ⟨r2.1, by rw [isNo_v z r1]; exact q.flat e ⟨rfl, rfl⟩⟩
  · cases hf
    exact .inr ⟨_, _, r1.1, r2.1, q.flat e ⟨by congr 1, rfl⟩⟩
  · cases hf
end
end LI

namespace LI
open PySem L2

theorem RepE.get {c : LC} {P H : Hp} : ∀ {ρ : List D} {σ : St} {S : FP} {i : Nat} {d : D}, RepE c P H ρ σ S → ρ[i]? = some d → ∃ ov T, σ[i]? = some ov ∧ RepO c P H d ov T ∧ ∀ a, T a ≤ S a
  | [], [], _, i, d, _, e => by simp at e
  | d0 :: ds, v0 :: σ, S, 0, d, ⟨T, U, r, rs, f⟩, e => by
    simp at e; subst e
    exact ⟨v0, T, rfl, r, fun a => by rw [f]; simp only [fa]; omega⟩
  | d0 :: ds, v0 :: σ, S, i + 1, d, ⟨T, U, r, rs, f⟩, e => by
    obtain ⟨ov, T2, h1, h2, h3⟩ := RepE.get (i := i) (d := d) rs (by simpa using e)
    exact ⟨ov, T2, by simpa using h1, h2, fun a => by have := h3 a; rw [f]; simp only [fa]; omega⟩
  | [], _ :: _, _, _, _, h, _ => h.elim
  | _ :: _, [], _, _, _, h, _ => h.elim
def notGone : D → Bool
  | .gone => false
  | _ => true
def vM (i : Nat) : RM := fun ρ => (ρ[i]?).bind fun d => if notGone d = true then some d else none
section
variable {X : Cx} {cl : Nat → Addr} {E : En} {e a b : Expr} {pos : Pos} {m ma mb : RM}
theorem tvar_run {c : LC} {i : Nat} {σ : St} {H : Hp} {Q : VK} (h : tR c E (vM i) σ H Q) : tVar i σ H Q := by
  obtain ⟨P, S, T, ρ, d, w, hm, q⟩ := h
  unfold vM at hm
  cases e : ρ[i]? with
  | none => rw [e] at hm; cases hm
  | some d1 =>
    rw [e] at hm
    simp only [Option.bind_some] at hm
    split at hm
    · rename_i hn
      cases hm
      obtain ⟨ov, T2, h1, h2, _⟩ := w.env.get e
      cases ov with
      | none => rw [h2.1] at hn; cases hn
      | some v => exact ⟨v, h1, q v H P T2 (.refl w.ph) h2⟩
    · cases hm
theorem r_v (i : Nat) {x : Str} (hN : X.N[i]? = some x := by rfl) (hv : Vis X.env.scope x := by first | exact Or.inl rfl | exact Or.inr (Or.inl rfl) | exact Or.inr (Or.inr rfl)) (hd : (x == ("__debug__" : Str)) = false := by decide)
    (hcd : (x == ("__classdict__" : Str)) = false := by decide) : PE X (.Name x pos) (tR ⟨X.K, cl, X.w⟩ E (vM i)) := PE_imp (pe_var hN hv hd hcd) fun _ _ _ h => tvar_run h

def kM (d : D) : RM := fun _ => some d
theorem tc_run {c : LC} {d : D} {v : V} (hr : ∀ P H, Ex P H → Rep c P H d v fz) {σ : St} {H : Hp} {Q : VK} (h : tF c E (kM d) σ H Q) : tC v σ H Q := by
  obtain ⟨P, S, T, ρ, d1, w, hm, q⟩ := h
  cases hm
  exact q.flat w.ph (hr P H w.ph)
theorem f_int {i : Int} {j} : PE X (.Constant (.int i) j pos) (tF ⟨X.K, cl, X.w⟩ E (kM (.int i))) := PE_imp pe_int fun _ _ _ h => tc_run (c := ⟨X.K, cl, X.w⟩) (d := .int i) (v := .int i) (fun _ _ _ => ⟨rfl, rfl⟩) h
theorem f_bl {k : Bool} {j} : PE X (.Constant (.bool k) j pos) (tF ⟨X.K, cl, X.w⟩ E (kM (.bl k))) := PE_imp pe_bl fun _ _ _ h => tc_run (c := ⟨X.K, cl, X.w⟩) (d := .bl k) (v := .bl k) (fun _ _ _ => ⟨rfl, rfl⟩) h
theorem f_non {j} : PE X (.Constant .none j pos) (tF ⟨X.K, cl, X.w⟩ E (kM .non)) := PE_imp pe_non fun _ _ _ h => tc_run (c := ⟨X.K, cl, X.w⟩) (d := .non) (v := .non) (fun _ _ _ => ⟨rfl, rfl⟩) h
theorem f_str {x : Str} {j} (s : List Nat) (hs : x = ⟨s.toArray⟩ := by rfl) : PE X (.Constant (.str x) j pos) (tF ⟨X.K, cl, X.w⟩ E (kM (.str s))) := PE_imp pe_str fun _ _ _ h => tc_run (c := ⟨X.K, cl, X.w⟩) (d := .str s) (v := .str x) (fun _ _ _ => ⟨by rw [hs], rfl⟩) h
theorem f_glob {x : Str} {v : V} {u : Value} (d : D) (hg : Gl X x) (hm : X.mg x = some u) (r : RelV v u) (hr : ∀ P H, Ex P H → Rep ⟨X.K, cl, X.w⟩ P H d v fz) (hd : (x == ("__debug__" : Str)) = false := by decide) : PE X (.Name x pos) (tF ⟨X.K, cl, X.w⟩ E (kM d)) :=
  PE_imp (pe_glob hg hm r hd) fun _ _ _ h => tc_run hr h

def negD : D → Option D
  | .int a => some (.int (-a))
  | _ => none
theorem f_neg (ha : PE X a (tR ⟨X.K, cl, X.w⟩ E ma)) : PE X (.UnaryOp .USub a pos) (tF ⟨X.K, cl, X.w⟩ E (m1 negD ma)) := PE_imp (pe_un un_neg ha) fun σ H Q ⟨P, S, T, ρ, d, w, hm, q⟩ => by
  unfold m1 at hm
  cases ea : ma ρ with
  | none => rw [ea] at hm; cases hm
  | some da =>
    rw [ea] at hm
    cases da with
    | int i =>
      cases hm
      refine ⟨P, S, T, ρ, .int i, w, ea, fun v H' P' U g r => ⟨i, r.1, ?_⟩⟩
      exact q _ H' P' fz g ⟨rfl, rfl⟩ (fun _ => Nat.zero_le _) fun a z => by simp [fz] at z
    | _ => cases hm

abbrev AM := List D → Option (List D)
def tAR (c : LC) (E : En) (m : AM) : TA := fun σ H Q => ∃ P S T ρ ds, Wd c E P S T σ H ρ ∧ m ρ = some ds ∧ ∀ vs H' P' U, Gr P H P' H' → RepL c P' H' ds vs U → Q vs H'
def nilM : AM := fun _ => some []
def consM (m : RM) (ms : AM) : AM := fun ρ => (m ρ).bind fun d => (ms ρ).map fun ds => d :: ds
theorem a_nil : PA X [] (tAR ⟨X.K, cl, X.w⟩ E nilM) := PA_imp pa_nil fun σ H Q ⟨P, S, T, ρ, ds, w, hm, q⟩ => by
  cases hm
  exact q [] H P fz (.refl w.ph) ⟨rfl, rfl⟩
theorem a_cons {es : List Expr} {ms : AM} (h : PE X e (tR ⟨X.K, cl, X.w⟩ E m)) (hr : PA X es (tAR ⟨X.K, cl, X.w⟩ E ms)) (hs : starEach (e :: es) X.env = (false, eval e X.env) :: starEach es X.env := by rfl) : PA X (e :: es) (tAR ⟨X.K, cl, X.w⟩ E (consM m ms)) :=
  PA_imp (pa_cons h hr hs) fun σ H Q ⟨P, S, T, ρ, ds, w, hm, q⟩ => by
    unfold consM at hm
    cases e1 : m ρ with
    | none => rw [e1] at hm; cases hm
    | some d =>
      cases e2 : ms ρ with
      | none => rw [e1, e2] at hm; cases hm
      | some ds' =>
        rw [e1, e2] at hm
        cases hm
        exact ⟨P, S, T, ρ, d, w, e1, fun v H1 P1 U1 g1 r1 => ⟨P1, S, T, ρ, ds', w.grow g1, e2, fun vs H2 P2 U2 g2 r2 => q (v :: vs) H2 P2 (fa U1 U2) (g1.trans g2) ⟨v, vs, U1, U2, rfl, r1.gr g2, r2, rfl⟩⟩⟩
def tupM (ms : AM) : RM := fun ρ => (ms ρ).bind fun ds => if frzL ds = true ∧ ds.length ≤ LIM then some (.tup ds) else none
def lstM (ms : AM) : RM := fun ρ => (ms ρ).bind fun ds => if frzL ds = true ∧ ds.length ≤ LIM then some (.lst true ds) else none
theorem f_tup {es : List Expr} {ms : AM} {x1} (h : PA X es (tAR ⟨X.K, cl, X.w⟩ E ms)) : PE X (.Tuple es x1 pos) (tF ⟨X.K, cl, X.w⟩ E (tupM ms)) := PE_imp (pe_tup h) fun σ H Q ⟨P, S, T, ρ, d, w, hm, q⟩ => by
  unfold tupM at hm
  cases e1 : ms ρ with
  | none => rw [e1] at hm; cases hm
  | some ds =>
    rw [e1] at hm
    simp only [Option.bind_some] at hm
    split at hm
    · rename_i hf
      cases hm
      refine ⟨P, S, T, ρ, ds, w, e1, fun vs H' P' U g r => ⟨by rw [← r.length]; exact lim_le hf.2, ?_⟩⟩
      have z := RepL.frz0 ds vs U hf.1 r
      subst z
      exact (q.grow g).tup g.ph r
    · cases hm
theorem f_lst {es : List Expr} {ms : AM} (h : PA X es (tAR ⟨X.K, cl, X.w⟩ E ms)) : PE X (.List es pos) (tF ⟨X.K, cl, X.w⟩ E (lstM ms)) := PE_imp (pe_lst h) fun σ H Q ⟨P, S, T, ρ, d, w, hm, q⟩ => by
  unfold lstM at hm
  cases e1 : ms ρ with
  | none => rw [e1] at hm; cases hm
  | some ds =>
    rw [e1] at hm
    simp only [Option.bind_some] at hm
    split at hm
    · rename_i hf
      cases hm
      refine ⟨P, S, T, ρ, ds, w, e1, fun vs H' P' U g r => ⟨by rw [← r.length]; exact lim_le hf.2, ?_⟩⟩
      have z := RepL.frz0 ds vs U hf.1 r
      subst z
      exact (q.grow g).lst g.ph r
    · cases hm

def keyD : D → Option Key
  | .int i => some (.inl i)
  | .str s => some (.inr ⟨s.toArray⟩)
  | _ => none
def keyDs : List D → Option (List Key)
  | [] => some []
  | d :: ds => (keyD d).bind fun k => (keyDs ds).map fun ks => k :: ks
theorem keyD_v {c : LC} {P H : Hp} {d : D} {v : V} {U : FP} {k : Key} (h : keyD d = some k) (r : Rep c P H d v U) : v = kV k := by
  unfold keyD at h
  split at h
  · cases h; exact r.1
  · cases h; exact r.1
  · cases h
def under {κ : Type} [DecidableEq κ] : List κ → List D → κ → Option D
  | k :: ks, d :: ds, x => if k = x then some d else under ks ds x
  | _, _, _ => none
def ixD : D → D → Option D
  | .lst _ ds, .int i => atI ds i
  | .tup ds, .int i => atI ds i
  | .scr ns, .int i => (atI ns i).map .int
  | .str s, .int i => if s.length ≤ LIM then (atI s i).map fun k => .str [k] else none
  | .dK _ ks ds, k => (keyD k).bind fun k => under ks ds k
  | _, _ => none
theorem atI_rep {c : LC} {P H : Hp} {ds : List D} {xs : List V} {S : FP} {i : Int} {d : D} (r : RepL c P H ds xs S) (h : atI ds i = some d) : ∃ x T, atI xs i = some x ∧ Rep c P H d x T ∧ ∀ a, T a ≤ S a := by
  unfold atI at h ⊢
  rw [← r.length]
  cases e : ixN ds.length i with
  | none => rw [e] at h; cases h
  | some j => rw [e] at h; exact r.get h
theorem atI_map {α β : Type} (f : α → β) (xs : List α) (i : Int) : atI (xs.map f) i = (atI xs i).map f := by
  unfold atI
  rw [List.length_map]
  cases ixN xs.length i with
  | none => rfl
  | some j => simp
end
theorem under_rep {c : LC} {P H : Hp} {κ : Type} [DecidableEq κ] : ∀ {ks : List κ} {ds : List D} {xs : List V} {S : FP} {k : κ} {d : D}, RepL c P H ds xs S → ks.length = xs.length → under ks ds k = some d → ∃ x T, (ks.zip xs).find? (fun p => decide (p.1 = k)) = some (k, x) ∧ Rep c P H d x T ∧ ∀ a, T a ≤ S a
  | [], ds, xs, S, k, d, r, n, h => by simp [under] at h
  | k0 :: ks, [], xs, S, k, d, r, n, h => by simp [under] at h
  | k0 :: ks, d0 :: ds, xs, S, k, d, ⟨y, ys, T, T2, e1, r, rs, f⟩, n, h => by
    subst e1
    unfold under at h
    by_cases q : k0 = k
    · rw [if_pos q] at h
      cases h
      exact ⟨y, T, by simp [q], r, fun a => by rw [f]; simp only [fa]; omega⟩
    · rw [if_neg q] at h
      obtain ⟨x, T3, h1, h2, h3⟩ := under_rep rs (by simpa using n) h
      exact ⟨x, T3, by simp [q, h1], h2, fun a => by have := h3 a; rw [f]; simp only [fa]; omega⟩
end LI

namespace LI
open PySem L2

theorem PE_or {X : Cx} {e : Expr} {t u : TE} (h : PE X e t) (k : PE X e u) : PE X e (fun σ H Q => t σ H Q ∨ u σ H Q) := ⟨fun pins s σ H Q I q => q.elim (h.run pins s σ H Q I) (k.run pins s σ H Q I)⟩
theorem PT_or {X : Cx} {e : Expr} {t u : TT} (h : PT X e t) (k : PT X e u) : PT X e (fun σ H Q => t σ H Q ∨ u σ H Q) := ⟨fun pins s σ H Q I q => q.elim (h.run pins s σ H Q I) (k.run pins s σ H Q I)⟩

theorem dict_under {c : LC} {P H : Hp} (e : Ex P H) {dt : D} {x y : V} {U1 U2 : FP} {dk : D} :
    (∀ o ks ds, dt = .dK o ks ds → ∀ k, keyD dk = some k → Rep c P H dt x U1 → Rep c P H dk y U2 → ∃ a xs, x = .ref a ∧ H a = some (.dK (ks.zip xs)) ∧ ks.length = xs.length ∧ y = kV k ∧ ∃ T, RepL c P H ds xs T) := by
  refine fun o ks ds hd k hk r1 r2 => ?_
  · subst hd
    cases o with
    | true => obtain ⟨a, xs, T, e1, h, n, rl, _⟩ := r1; exact ⟨a, xs, e1, h, n, keyD_v hk r2, T, rl⟩
    | false => obtain ⟨a, xs, e1, h, n, rl⟩ := r1; exact ⟨a, xs, e1, e _ _ h, n, keyD_v hk r2, U1, rl⟩
theorem under_val {c : LC} {P H : Hp} {κ : Type} [DecidableEq κ] {ks : List κ} {ds : List D} {xs : List V} {S : FP} {k : κ} {d : D} (r : RepL c P H ds xs S) (n : ks.length = xs.length) (h : under ks ds k = some d) : ∃ x T, valV (ks.zip xs) k = some x ∧ Rep c P H d x T := by
  obtain ⟨x, T, h1, h2, _⟩ := under_rep r n h
  exact ⟨x, T, by unfold valV; rw [h1]; rfl, h2⟩
theorem under_none {c : LC} {P H : Hp} {κ : Type} [DecidableEq κ] : ∀ {ks : List κ} {ds : List D} {xs : List V} {S : FP} {k : κ}, RepL c P H ds xs S → ks.length = xs.length → under ks ds k = none → valV (ks.zip xs) k = none
  | [], ds, xs, S, k, r, n, h => by simp [valV]
  | k0 :: ks, [], xs, S, k, r, n, h => by rw [r.1] at n; simp at n
  | k0 :: ks, d0 :: ds, xs, S, k, ⟨y, ys, T, T2, e1, r, rs, f⟩, n, h => by
    subst e1
    unfold under at h
    by_cases q : k0 = k
    · rw [if_pos q] at h; cases h
    · rw [if_neg q] at h
      have := under_none rs (by simpa using n) h
      rw [List.zip_cons_cons, valV_neg (by simpa using q)]
      exact this
section
variable {X : Cx} {cl : Nat → Addr} {E : En} {e a b : Expr} {pos : Pos} {m ma mb : RM}
theorem r_ix (hu : X.A.units + 64 < cLine) (ha : PE X a (tR ⟨X.K, cl, X.w⟩ E ma)) (hb : PE X b (tR ⟨X.K, cl, X.w⟩ E mb)) (hs : PlainIx b := by exact fun _ _ => rfl) : PE X (.Subscript a b pos) (tR ⟨X.K, cl, X.w⟩ E (m2 ixD ma mb)) := by
  refine PE_imp (PE_or (pe_ix ix_seq ha hb hs) (pe_dget (Nat.lt_of_le_of_lt (by omega) hu) ha hb hs)) fun σ H Q ⟨P, S, T, ρ, d, w, hm, q⟩ => ?_
  unfold m2 at hm
  cases ea : ma ρ with
  | none => rw [ea] at hm; cases hm
  | some da =>
    cases eb : mb ρ with
    | none => rw [ea, eb] at hm; cases hm
    | some db =>
      rw [ea, eb] at hm
      replace hm : ixD da db = some d := hm
      unfold ixD at hm
      split at hm
      · rename_i o ds i
        left
        refine ⟨P, S, T, ρ, .lst o ds, w, ea, fun x H1 P1 U1 g1 r1 => ⟨P1, S, T, ρ, .int i, w.grow g1, eb, fun y H2 P2 U2 g2 r2 => ?_⟩⟩
        obtain ⟨p, xs, T', e1, hh, rl, _⟩ := lst_heap g2.ph (r1.gr g2)
        obtain ⟨z, T2, h1, h2, _⟩ := atI_rep rl hm
        exact .inl ⟨p, xs, i, z, e1, r2.1, .inl (.inl hh), h1, q z H2 P2 T2 (g1.trans g2) h2⟩
      · rename_i ds i
        left
        refine ⟨P, S, T, ρ, .tup ds, w, ea, fun x H1 P1 U1 g1 r1 => ⟨P1, S, T, ρ, .int i, w.grow g1, eb, fun y H2 P2 U2 g2 r2 => ?_⟩⟩
        obtain ⟨p, xs, e1, hh, rl⟩ := r1.gr g2
        obtain ⟨z, T2, h1, h2, _⟩ := atI_rep rl hm
        exact .inr (.inl ⟨p, xs, i, z, e1, r2.1, sqt_mono g2.ph hh, h1, q z H2 P2 T2 (g1.trans g2) h2⟩)
      · rename_i ns i
        left
        refine ⟨P, S, T, ρ, .scr ns, w, ea, fun x H1 P1 U1 g1 r1 => ⟨P1, S, T, ρ, .int i, w.grow g1, eb, fun y H2 P2 U2 g2 r2 => ?_⟩⟩
        obtain ⟨p, e1, hh, _⟩ := r1.gr g2
        cases z : atI ns i with
        | none => rw [z] at hm; cases hm
        | some k =>
          rw [z] at hm; cases hm
          exact .inl ⟨p, _, i, .int k, e1, r2.1, sql_mono g2.ph hh, by rw [atI_map, z]; rfl, q _ H2 P2 fz (g1.trans g2) ⟨rfl, rfl⟩⟩
      · rename_i s i
        split at hm
        · rename_i hl
          left
          refine ⟨P, S, T, ρ, .str s, w, ea, fun x H1 P1 U1 g1 r1 => ⟨P1, S, T, ρ, .int i, w.grow g1, eb, fun y H2 P2 U2 g2 r2 => ?_⟩⟩
          cases z : atI s i with
          | none => rw [z] at hm; cases hm
          | some k =>
            rw [z] at hm; cases hm
            exact .inr (.inr ⟨⟨s.toArray⟩, i, k, r1.1, r2.1, by rw [str_len]; exact lim_le hl, by simpa using z, q _ H2 P2 fz (g1.trans g2) ⟨rfl, rfl⟩⟩)
        · cases hm
      · rename_i o ks ds
        right
        cases z : keyD db with
        | none => rw [z] at hm; cases hm
        | some k =>
          rw [z] at hm
          refine ⟨P, S, T, ρ, .dK o ks ds, w, ea, fun x H1 P1 U1 g1 r1 => ⟨P1, S, T, ρ, _, w.grow g1, eb, fun y H2 P2 U2 g2 r2 => ?_⟩⟩
          obtain ⟨p, xs, e1, hh, n, ey, T', rl⟩ := (dict_under g2.ph) o ks ds rfl k z (r1.gr g2) r2
          obtain ⟨v, T2, h1, h2⟩ := under_val rl n hm
          exact ⟨p, v, e1, .inl ⟨_, k, .inl hh, ey, h1.symm⟩, q v H2 P2 T2 (g1.trans g2) h2⟩
      · cases hm

def cutL {α : Type} (xs : List α) (lo hi : Option Int) : List α := (xs.drop (HT.sIx xs.length 0 lo)).take (HT.sIx xs.length xs.length hi - HT.sIx xs.length 0 lo)
def slD (lo hi : Option Int) : D → Option D
  | .lst _ ds => if frzL ds = true then some (.lst true (cutL ds lo hi)) else none
  | .tup ds => if frzL ds = true then some (.tup (cutL ds lo hi)) else none
  | .scr ns => some (.lst true ((cutL ns lo hi).map .int))
  | .str s => if s.length ≤ LIM then some (.str (cutL s lo hi)) else none
  | _ => none
abbrev OM := List D → Option (Option Int)
def noM : OM := fun _ => some none
def soM (m : RM) : OM := fun ρ => (m ρ).bind fun d => match d with | .int i => some (some i) | _ => none
def slM (m : RM) (lo hi : OM) : RM := fun ρ => (m ρ).bind fun d => (lo ρ).bind fun l => (hi ρ).bind fun h => slD l h d
def tOM (c : LC) (E : En) (m : OM) : TO := fun σ H Q => ∃ P S T ρ o, Wd c E P S T σ H ρ ∧ m ρ = some o ∧ ∀ H' P', Gr P H P' H' → Q o H'
theorem o_none : PO X none (tOM ⟨X.K, cl, X.w⟩ E noM) := ⟨fun pins s σ H Q I ⟨P, S, T, ρ, o, w, hm, q⟩ => by
  cases hm
  exact po_none.run pins s σ H Q I (q H P (.refl w.ph))⟩
theorem o_some (h : PE X e (tR ⟨X.K, cl, X.w⟩ E m)) : PO X (some e) (tOM ⟨X.K, cl, X.w⟩ E (soM m)) := ⟨fun pins s σ H Q I ⟨P, S, T, ρ, o, w, hm, q⟩ => by
  refine (po_some h).run pins s σ H Q I ?_
  unfold soM at hm
  cases ea : m ρ with
  | none => rw [ea] at hm; cases hm
  | some da =>
    rw [ea] at hm
    cases da with
    | int i =>
      cases hm
      exact ⟨P, S, T, ρ, .int i, w, ea, fun v H' P' U g r => ⟨i, r.1, q H' P' g⟩⟩
    | _ => cases hm⟩
theorem RepL.cut {c : LC} {P H : Hp} {ds : List D} {xs : List V} (r : RepL c P H ds xs fz) (lo hi : Option Int) : RepL c P H (cutL ds lo hi) (cutV xs lo hi) fz := by
  unfold cutL cutV
  rw [r.length]
  exact (r.drop _).take _
theorem cutL_map {α β : Type} (f : α → β) (xs : List α) (lo hi : Option Int) : cutL (xs.map f) lo hi = (cutL xs lo hi).map f := by
  unfold cutL
  rw [List.length_map, ← List.map_drop, ← List.map_take]
theorem repL_ints {c : LC} {P H : Hp} : ∀ ns : List Int, RepL c P H (ns.map .int) (ns.map .int) fz
  | [] => ⟨rfl, rfl⟩
  | n :: ns => ⟨.int n, _, fz, fz, rfl, ⟨rfl, rfl⟩, repL_ints ns, (fa_fz fz).symm⟩
theorem f_sl {lo hi : Option Expr} {ml mh : OM} {p2 : Pos} (ha : PE X a (tR ⟨X.K, cl, X.w⟩ E ma)) (hl : PO X lo (tOM ⟨X.K, cl, X.w⟩ E ml)) (hh : PO X hi (tOM ⟨X.K, cl, X.w⟩ E mh)) : PE X (.Subscript a (.Slice lo hi none p2) pos) (tF ⟨X.K, cl, X.w⟩ E (slM ma ml mh)) := by
  refine PE_imp (pe_slice (SlR.or sl_list (SlR.or sl_tupA sl_str)) ha hl hh) fun σ H Q ⟨P, S, T, ρ, d, w, hm, q⟩ => ?_
  unfold slM at hm
  cases ea : ma ρ with
  | none => rw [ea] at hm; cases hm
  | some da =>
    cases el : ml ρ with
    | none => rw [ea, el] at hm; cases hm
    | some l =>
      cases eh : mh ρ with
      | none => rw [ea, el, eh] at hm; cases hm
      | some h =>
        rw [ea, el, eh] at hm
        replace hm : slD l h da = some d := hm
        refine ⟨P, S, T, ρ, da, w, ea, fun x H1 P1 U1 g1 r1 => ⟨P1, S, T, ρ, l, w.grow g1, el, fun H2 P2 g2 => ⟨P2, S, T, ρ, h, (w.grow g1).grow g2, eh, fun H3 P3 g3 => ?_⟩⟩⟩
        have r3 := (r1.gr g2).gr g3
        have gg := (g1.trans g2).trans g3
        unfold slD at hm
        split at hm
        · rename_i o ds
          split at hm
          · rename_i hf
            cases hm
            obtain ⟨p, xs, e1, hh, rl⟩ := lst_heap0 g3.ph r3 hf
            exact .inl ⟨p, xs, e1, .inl (.inl hh), (q.grow gg).lst g3.ph (rl.cut l h)⟩
          · cases hm
        · rename_i ds
          split at hm
          · rename_i hf
            cases hm
            obtain ⟨p, xs, e1, hh, hp, rl⟩ := tup_heap0 g3.ph r3 hf
            refine .inr (.inl ⟨p, xs, e1, hh, fun z => ?_, fun _ => (q.grow gg).tup g3.ph (rl.cut l h)⟩)
            have e2 : cutL ds l h = ds := by
              unfold cutL
              rw [rl.length, z.1, z.2, List.drop_zero, Nat.sub_zero, ← rl.length, List.take_length]
            rw [e2] at q
            exact (q.grow gg).flat g3.ph ⟨p, xs, e1 ▸ rfl, hp, rl⟩
          · cases hm
        · rename_i ns
          cases hm
          obtain ⟨p, e1, hh, _⟩ := r3
          refine .inl ⟨p, _, e1, sql_mono g3.ph hh, ?_⟩
          have := (q.grow gg).lst (xs := (cutL ns l h).map .int) g3.ph (repL_ints _)
          have e2 : cutV (ns.map V.int) l h = (cutL ns l h).map .int := cutL_map V.int ns l h
          rw [e2]
          exact this
        · rename_i s
          split at hm
          · rename_i hl
            cases hm
            refine .inr (.inr ⟨⟨s.toArray⟩, r3.1, by rw [str_len]; exact lim_le hl, (q.grow gg).flat g3.ph ⟨?_, rfl⟩⟩)
            unfold cutS cutL
            rw [str_len]
          · cases hm
        · cases hm

def flatD : D → Bool
  | .non => true | .bl _ => true | .int _ => true | .str _ => true | _ => false
def eqF : D → D → Bool
  | .non, .non => true
  | .bl a, .bl b => a == b
  | .bl a, .int b => (if a then 1 else 0) == b
  | .int a, .bl b => a == (if b then 1 else 0)
  | .int a, .int b => a == b
  | .str a, .str b => a == b
  | _, _ => false
theorem flat_v {c : LC} {P H : Hp} : ∀ {d : D} {v : V} {U : FP}, flatD d = true → Rep c P H d v U → flatV v = true
  | .non, v, U, _, r => by rw [r.1]; rfl
  | .bl _, v, U, _, r => by rw [r.1]; rfl
  | .int _, v, U, _, r => by rw [r.1]; rfl
  | .str _, v, U, _, r => by rw [r.1]; rfl
theorem str_beq (a b : List Nat) : ((⟨a.toArray⟩ : Str) == ⟨b.toArray⟩) = (a == b) := by
  rw [Bool.eq_iff_iff, beq_iff_eq, beq_iff_eq]
  exact ⟨fun h => by have := congrArg (fun z : Str => z.cps.toList) h; simpa using this, fun h => by rw [h]⟩
theorem eqF_v {c : LC} {P H : Hp} {d e : D} {v u : V} {U1 U2 : FP} (h1 : flatD d = true) (h2 : flatD e = true) (r1 : Rep c P H d v U1) (r2 : Rep c P H e u U2) : eqV v u = eqF d e := by
  cases d <;> first | cases h1 | skip
  all_goals (cases e <;> first | cases h2 | skip)
  all_goals (rw [r1.1, r2.1])
  all_goals first
    | rfl
    | exact str_beq _ _
theorem any_v {c : LC} {P H : Hp} {d : D} {v : V} {U1 : FP} (h1 : flatD d = true) (r1 : Rep c P H d v U1) : ∀ {ds : List D} {xs : List V} {U2 : FP}, ds.all flatD = true → RepL c P H ds xs U2 → xs.all flatV = true ∧ inV v xs = ds.any (fun y => eqF y d)
  | [], xs, U2, _, r => by rw [r.1]; exact ⟨rfl, rfl⟩
  | e :: ds, xs, U2, h, ⟨y, ys, T, T2, e1, r, rs, _⟩ => by
    simp only [List.all_cons, Bool.and_eq_true] at h
    obtain ⟨k1, k2⟩ := any_v h1 r1 h.2 rs
    subst e1
    refine ⟨by rw [List.all_cons, flat_v h.1 r, k1]; rfl, ?_⟩
    unfold inV at k2 ⊢
    rw [List.any_cons, List.any_cons, k2, eqF_v h.1 h1 r r1]
def inB : D → D → Option Bool
  | .str [k], .str z => some (decide (k ∈ z))
  | x, .lst _ ds => if flatD x = true ∧ ds.all flatD = true then some (ds.any fun y => eqF y x) else none
  | x, .tup ds => if flatD x = true ∧ ds.all flatD = true then some (ds.any fun y => eqF y x) else none
  | .str x, .kst ss => some (ss.any fun y => y == x)
  | x, .dK _ ks ds => (keyD x).map fun k => (under ks ds k).isSome
  | _, _ => none
def inD (x y : D) : Option D := (inB x y).map .bl
def ninD (x y : D) : Option D := (inB x y).map fun k => .bl (!k)
theorem kst_any {x : List Nat} : ∀ ss : List (List Nat), (ss.map fun s => V.str ⟨s.toArray⟩).all flatV = true ∧ inV (.str ⟨x.toArray⟩) (ss.map fun s => V.str ⟨s.toArray⟩) = ss.any fun y => y == x
  | [] => ⟨rfl, rfl⟩
  | s :: ss => by
    obtain ⟨h1, h2⟩ := kst_any (x := x) ss
    refine ⟨by rw [List.map_cons, List.all_cons, h1]; rfl, ?_⟩
    unfold inV at h2 ⊢
    rw [List.map_cons, List.any_cons, List.any_cons, h2]
    show ((⟨s.toArray⟩ : Str) == ⟨x.toArray⟩ || _) = _
    rw [str_beq]
theorem isSome_under {c : LC} {P H : Hp} {κ : Type} [DecidableEq κ] {ks : List κ} {ds : List D} {xs : List V} {S : FP} {k : κ} (r : RepL c P H ds xs S) (n : ks.length = xs.length) : (valV (ks.zip xs) k).isSome = (under ks ds k).isSome := by
  cases h : under ks ds k with
  | none => rw [under_none r n h]; rfl
  | some d => obtain ⟨x, T, h1, _⟩ := under_val r n h; rw [h1]; rfl
def tIn (K : PySem.W.Frag) (neg : Bool) (ta tb : TE) : TE := fun σ H Q =>
  tOp (fun x y H Q => (∃ (c : Nat) (z : Str), x = .str ⟨#[c]⟩ ∧ y = .str z ∧ Q (.bl (if neg then !decide (c ∈ z.cps.toList) else decide (c ∈ z.cps.toList))) H) ∨ rIn K neg x y H Q) ta tb σ H Q ∨ (if neg then tDNotIn ta tb else tDIn ta tb) σ H Q
theorem tIn_run {c : LC} {neg : Bool} {σ : St} {H : Hp} {Q : VK} {P : Hp} {S T : FP} {ρ : List D} {da db : D} {k : Bool} (w : Wd c E P S T σ H ρ) (ea : ma ρ = some da) (eb : mb ρ = some db) (hm : inB da db = some k)
    (q : ∀ H' P', Gr P H P' H' → Q (.bl (if neg then !k else k)) H') : tIn c.K neg (tR c E ma) (tR c E mb) σ H Q := by
  have seq : ∀ (hf : flatD da = true) (ds : List D), ds.all flatD = true → (k = ds.any fun y => eqF y da) → ∀ H2 P2 x y U1, Gr P H P2 H2 → Rep c P2 H2 da x U1 → (∃ p xs U2, y = V.ref p ∧ (SqL c.K H2 p xs ∨ SqT c.K H2 p xs) ∧ RepL c P2 H2 ds xs U2) → rIn c.K neg x y H2 Q := by
    intro hf ds hds hk H2 P2 x y U1 g r1 ⟨p, xs, U2, e1, hs, rl⟩
    obtain ⟨k1, k2⟩ := any_v hf r1 hds rl
    refine ⟨p, xs, e1, hs, flat_v hf r1, k1, ?_⟩
    rw [k2, ← hk]
    exact q H2 P2 g
  unfold inB at hm
  split at hm
  · rename_i j z
    cases hm
    refine .inl ⟨P, S, T, ρ, _, w, ea, fun x H1 P1 U1 g1 r1 => ⟨P1, S, T, ρ, _, w.grow g1, eb, fun y H2 P2 U2 g2 r2 => .inl ⟨j, _, r1.1, r2.1, by simpa using q H2 P2 (g1.trans g2)⟩⟩⟩
  · rename_i o ds
    split at hm
    · rename_i hf
      cases hm
      refine .inl ⟨P, S, T, ρ, _, w, ea, fun x H1 P1 U1 g1 r1 => ⟨P1, S, T, ρ, _, w.grow g1, eb, fun y H2 P2 U2 g2 r2 => .inr ?_⟩⟩
      obtain ⟨p, xs, T', e1, hh, rl, _⟩ := lst_heap g2.ph r2
      exact seq hf.1 ds hf.2 rfl H2 P2 x y U1 (g1.trans g2) (r1.gr g2) ⟨p, xs, T', e1, .inl (.inl (.inl hh)), rl⟩
    · cases hm
  · rename_i ds
    split at hm
    · rename_i hf
      cases hm
      refine .inl ⟨P, S, T, ρ, _, w, ea, fun x H1 P1 U1 g1 r1 => ⟨P1, S, T, ρ, _, w.grow g1, eb, fun y H2 P2 U2 g2 r2 => .inr ?_⟩⟩
      obtain ⟨p, xs, e1, hh, rl⟩ := r2
      exact seq hf.1 ds hf.2 rfl H2 P2 x y U1 (g1.trans g2) (r1.gr g2) ⟨p, xs, U2, e1, .inr (sqt_mono g2.ph hh), rl⟩
    · cases hm
  · rename_i x0 ss
    cases hm
    refine .inl ⟨P, S, T, ρ, _, w, ea, fun x H1 P1 U1 g1 r1 => ⟨P1, S, T, ρ, _, w.grow g1, eb, fun y H2 P2 U2 g2 r2 => .inr ?_⟩⟩
    obtain ⟨p, e1, hh, _⟩ := r2
    obtain ⟨k1, k2⟩ := kst_any (x := x0) ss
    refine ⟨p, _, e1, .inr (sqt_mono g2.ph hh), by rw [r1.1]; rfl, k1, ?_⟩
    rw [r1.1, k2]
    exact q H2 P2 (g1.trans g2)
  · rename_i o ks ds
    cases z : keyD da with
    | none => rw [z] at hm; cases hm
    | some kk =>
      rw [z] at hm
      cases hm
      right
      have run : ∀ H2 P2 x y U1 U2, Gr P H P2 H2 → Rep c P2 H2 da x U1 → Rep c P2 H2 (.dK o ks ds) y U2 → ∃ a o', y = V.ref a ∧ DGet H2 a x o' ∧ o'.isSome = (under ks ds kk).isSome := by
        intro H2 P2 x y U1 U2 g r1 r2
        obtain ⟨p, xs, e1, hh, n, ey, T', rl⟩ := (dict_under g.ph) o ks ds rfl kk z r2 r1
        exact ⟨p, _, e1, .inl ⟨_, kk, .inl hh, ey, rfl⟩, isSome_under rl n⟩
      cases neg with
      | true =>
        refine ⟨P, S, T, ρ, _, w, ea, fun x H1 P1 U1 g1 r1 => ⟨P1, S, T, ρ, _, w.grow g1, eb, fun y H2 P2 U2 g2 r2 => ?_⟩⟩
        obtain ⟨a, o', e1, dg, es⟩ := run H2 P2 x y U1 U2 (g1.trans g2) (r1.gr g2) r2
        exact ⟨a, o', e1, dg, by rw [es]; exact q H2 P2 (g1.trans g2)⟩
      | false =>
        refine ⟨P, S, T, ρ, _, w, ea, fun x H1 P1 U1 g1 r1 => ⟨P1, S, T, ρ, _, w.grow g1, eb, fun y H2 P2 U2 g2 r2 => ?_⟩⟩
        obtain ⟨a, o', e1, dg, es⟩ := run H2 P2 x y U1 U2 (g1.trans g2) (r1.gr g2) r2
        exact ⟨a, o', e1, dg, by rw [es]; exact q H2 P2 (g1.trans g2)⟩
  · cases hm
theorem opr_inS : OpR X (compareOp .In) (fun x y H Q => (∃ (c : Nat) (z : Str), x = .str ⟨#[c]⟩ ∧ y = .str z ∧ Q (.bl (if false = true then !decide (c ∈ z.cps.toList) else decide (c ∈ z.cps.toList))) H) ∨ rIn X.K false x y H Q) := OpR_or op_in_sign op_in_seq
theorem opr_ninS : OpR X (compareOp .NotIn) (fun x y H Q => (∃ (c : Nat) (z : Str), x = .str ⟨#[c]⟩ ∧ y = .str z ∧ Q (.bl (if true = true then !decide (c ∈ z.cps.toList) else decide (c ∈ z.cps.toList))) H) ∨ rIn X.K true x y H Q) := OpR_or op_notIn_sign op_notIn_seq
theorem m2_split {f : D → D → Option D} {ρ : List D} {d : D} (h : m2 f ma mb ρ = some d) : ∃ da db, ma ρ = some da ∧ mb ρ = some db ∧ f da db = some d := by
  unfold m2 at h
  cases ea : ma ρ with
  | none => rw [ea] at h; cases h
  | some da =>
    cases eb : mb ρ with
    | none => rw [ea, eb] at h; cases h
    | some db => rw [ea, eb] at h; exact ⟨da, db, rfl, rfl, h⟩
theorem inD_split {x y d : D} (h : inD x y = some d) : ∃ k, inB x y = some k ∧ d = .bl k := by
  unfold inD at h
  cases z : inB x y with
  | none => rw [z] at h; cases h
  | some k => rw [z] at h; cases h; exact ⟨k, rfl, rfl⟩
theorem ninD_split {x y d : D} (h : ninD x y = some d) : ∃ k, inB x y = some k ∧ d = .bl (!k) := by
  unfold ninD at h
  cases z : inB x y with
  | none => rw [z] at h; cases h
  | some k => rw [z] at h; cases h; exact ⟨k, rfl, rfl⟩
theorem f_in (hu : X.A.units + 64 < cLine) (ha : PE X a (tR ⟨X.K, cl, X.w⟩ E ma)) (hb : PE X b (tR ⟨X.K, cl, X.w⟩ E mb)) (hm : behindInMarks .In b = false := by rfl) : PE X (.Compare a [.In] [b] pos) (tF ⟨X.K, cl, X.w⟩ E (m2 inD ma mb)) :=
  PE_imp (PE_or (pe_cmpR opr_inS ha hb hm) (pe_cmp (pc_din (Nat.lt_of_le_of_lt (by omega) hu) ha hb) hm)) fun σ H Q ⟨P, S, T, ρ, d, w, h, q⟩ => by
    obtain ⟨da, db, ea, eb, h⟩ := m2_split h
    obtain ⟨k, h2, rfl⟩ := inD_split h
    exact tIn_run (neg := false) w ea eb h2 fun H' P' g => q _ H' P' fz g ⟨rfl, rfl⟩ (fun _ => Nat.zero_le _) fun a z => by simp [fz] at z
theorem t_in (hu : X.A.units + 64 < cLine) (ha : PE X a (tR ⟨X.K, cl, X.w⟩ E ma)) (hb : PE X b (tR ⟨X.K, cl, X.w⟩ E mb)) (hm : behindInMarks .In b = false := by rfl) : PT X (.Compare a [.In] [b] pos) (tT ⟨X.K, cl, X.w⟩ E (bM (m2 inD ma mb))) :=
  PT_imp (PT_or (pt_cmpR opr_inS ha hb hm) (pt_cmp (pc_din (Nat.lt_of_le_of_lt (by omega) hu) ha hb) hm)) fun σ H Q ⟨P, S, T, ρ, d, w, h, q⟩ => by
    obtain ⟨da, db, ea, eb, h⟩ := m2_split (bM_some h)
    obtain ⟨k, h2, e⟩ := inD_split h
    cases e
    exact tIn_run (neg := false) (Q := fun x H' => ∃ k, x = .bl k ∧ Q k H') w ea eb h2 fun H' P' g => ⟨_, rfl, q H' P' g⟩
theorem t_nin (hu : X.A.units + 64 < cLine) (ha : PE X a (tR ⟨X.K, cl, X.w⟩ E ma)) (hb : PE X b (tR ⟨X.K, cl, X.w⟩ E mb)) (hm : behindInMarks .NotIn b = false := by rfl) : PT X (.Compare a [.NotIn] [b] pos) (tT ⟨X.K, cl, X.w⟩ E (bM (m2 ninD ma mb))) :=
  PT_imp (PT_or (pt_cmpR opr_ninS ha hb hm) (pt_cmp (pc_dnotin (Nat.lt_of_le_of_lt (by omega) hu) ha hb) hm)) fun σ H Q ⟨P, S, T, ρ, d, w, h, q⟩ => by
    obtain ⟨da, db, ea, eb, h⟩ := m2_split (bM_some h)
    obtain ⟨k, h2, e⟩ := ninD_split h
    cases e
    exact tIn_run (neg := true) (Q := fun x H' => ∃ k, x = .bl k ∧ Q k H') w ea eb h2 fun H' P' g => ⟨_, rfl, q H' P' g⟩
end
end LI

namespace LI
open PySem L2

section
variable {X : Cx} {cl : Nat → Addr} {E : En} {e a b : Expr} {pos : Pos} {m ma mb : RM}
def truD : D → Option Bool
  | .non => some false
  | .bl b => some b
  | .int i => some (i != 0)
  | .str s => if s.length ≤ LIM then some (!s.isEmpty) else none
  | .tup ds => some (!ds.isEmpty)
  | .lst _ ds => some (!ds.isEmpty)
  | .scr ns => some (!ns.isEmpty)
  | _ => none
def truM (m : RM) : BM := fun ρ => (m ρ).bind truD
theorem emp_eq {α β : Type} {xs : List α} {ys : List β} (h : xs.length = ys.length) : xs.isEmpty = ys.isEmpty := by
  cases xs <;> cases ys <;> first | rfl | (simp at h)
theorem truD_v {c : LC} {P H : Hp} (e : Ex P H) : ∀ {d : D} {v : V} {U : FP} {k : Bool}, truD d = some k → Rep c P H d v U → TruV c.K v H k
  | .non, v, U, k, h, r => by cases h; rw [r.1]; rfl
  | .bl b, v, U, k, h, r => by cases h; rw [r.1]; rfl
  | .int b, v, U, k, h, r => by cases h; rw [r.1]; rfl
  | .str s, v, U, k, h, r => by
    replace h : (if s.length ≤ LIM then some (!s.isEmpty) else none) = some k := h
    by_cases hl : s.length ≤ LIM
    · rw [if_pos hl] at h
      cases h
      rw [r.1]
      refine ⟨by rw [str_len]; exact lim_le hl, ?_⟩
      rw [str_len]
      cases s with
      | nil => rfl
      | cons x s =>
        have : ((x :: s).length : Int) ≠ 0 := by rw [List.length_cons]; omega
        simp [bne, this]
        omega
    · rw [if_neg hl] at h; cases h
  | .tup ds, v, U, k, h, ⟨a, xs, e1, hp, rl⟩ => by cases h; rw [e1]; exact .inr (.inl ⟨xs, sqt_mono e hp, by rw [emp_eq rl.length]⟩)
  | .lst o ds, v, U, k, h, r => by
    cases h
    obtain ⟨p, xs, T, e1, hh, rl, _⟩ := lst_heap e r
    rw [e1]
    exact .inl ⟨xs, .inl (.inl hh), by rw [emp_eq rl.length]⟩
  | .scr ns, v, U, k, h, ⟨a, e1, hp, _⟩ => by cases h; rw [e1]; exact .inl ⟨_, sql_mono e hp, by rw [emp_eq (List.length_map (f := V.int))]⟩
  | .gone, _, _, _, h, _ => by cases h
  | .kst _, _, _, _, h, _ => by cases h
  | .dK .., _, _, _, h, _ => by cases h
  | .dT .., _, _, _, h, _ => by cases h
  | .dN .., _, _, _, h, _ => by cases h
  | .obj .., _, _, _, h, _ => by cases h
theorem t_val (ha : PE X a (tR ⟨X.K, cl, X.w⟩ E m)) (he : ∀ whole, isTrue a X.env whole = (do let v ← whole; standAt a.pos; holding [v] (truthy v)) := by intro _; rfl) : PT X a (tT ⟨X.K, cl, X.w⟩ E (truM m)) :=
  PT_imp (pt_truth ha he) fun σ H Q ⟨P, S, T, ρ, b, w, hm, q⟩ => by
    unfold truM at hm
    cases ea : m ρ with
    | none => rw [ea] at hm; cases hm
    | some d =>
      rw [ea] at hm
      exact ⟨P, S, T, ρ, d, w, ea, fun v H' P' U g r => ⟨b, truD_v g.ph hm r, q H' P' g⟩⟩
def notB (m : BM) : BM := fun ρ => (m ρ).map not
def andB (ma mb : BM) : BM := fun ρ => (ma ρ).bind fun k => if k = true then mb ρ else some false
def orB (ma mb : BM) : BM := fun ρ => (ma ρ).bind fun k => if k = true then some true else mb ρ
theorem t_not {m : BM} (h : PT X a (tT ⟨X.K, cl, X.w⟩ E m)) : PT X (.UnaryOp .Not a pos) (tT ⟨X.K, cl, X.w⟩ E (notB m)) := PT_imp (pt_not h) fun σ H Q ⟨P, S, T, ρ, b, w, hm, q⟩ => by
  unfold notB at hm
  cases ea : m ρ with
  | none => rw [ea] at hm; cases hm
  | some k =>
    rw [ea] at hm
    cases hm
    exact ⟨P, S, T, ρ, k, w, ea, q⟩
theorem w_and1 {m : BM} (h : PT X a (tT ⟨X.K, cl, X.w⟩ E m)) : PW X (.BoolOp .And [a] pos) (tT ⟨X.K, cl, X.w⟩ E m) := pw_and1 h
theorem w_or1 {m : BM} (h : PT X a (tT ⟨X.K, cl, X.w⟩ E m)) : PW X (.BoolOp .Or [a] pos) (tT ⟨X.K, cl, X.w⟩ E m) := pw_or1 h
theorem w_and {ma mb : BM} {rest : List Expr} (h : PT X a (tT ⟨X.K, cl, X.w⟩ E ma)) (k : PW X (.BoolOp .And (b :: rest) pos) (tT ⟨X.K, cl, X.w⟩ E mb)) : PW X (.BoolOp .And (a :: b :: rest) pos) (tT ⟨X.K, cl, X.w⟩ E (andB ma mb)) :=
  PW_imp (pw_and h k) fun σ H Q ⟨P, S, T, ρ, d, w, hm, q⟩ => by
    unfold andB at hm
    cases ea : ma ρ with
    | none => rw [ea] at hm; cases hm
    | some x =>
      rw [ea] at hm
      refine ⟨P, S, T, ρ, x, w, ea, fun H' P' g => ?_⟩
      cases x with
      | true => exact iteT ⟨P', S, T, ρ, d, w.grow g, hm, fun H2 P2 g2 => q H2 P2 (g.trans g2)⟩
      | false => cases hm; exact iteF (q H' P' g)
theorem w_or {ma mb : BM} {rest : List Expr} (h : PT X a (tT ⟨X.K, cl, X.w⟩ E ma)) (k : PW X (.BoolOp .Or (b :: rest) pos) (tT ⟨X.K, cl, X.w⟩ E mb)) : PW X (.BoolOp .Or (a :: b :: rest) pos) (tT ⟨X.K, cl, X.w⟩ E (orB ma mb)) :=
  PW_imp (pw_or h k) fun σ H Q ⟨P, S, T, ρ, d, w, hm, q⟩ => by
    unfold orB at hm
    cases ea : ma ρ with
    | none => rw [ea] at hm; cases hm
    | some x =>
      rw [ea] at hm
      refine ⟨P, S, T, ρ, x, w, ea, fun H' P' g => ?_⟩
      cases x with
      | true => cases hm; exact iteT (q H' P' g)
      | false => exact iteF ⟨P', S, T, ρ, d, w.grow g, hm, fun H2 P2 g2 => q H2 P2 (g.trans g2)⟩
theorem t_w {m : BM} (h : PW X a (tT ⟨X.K, cl, X.w⟩ E m)) : PT X a (tT ⟨X.K, cl, X.w⟩ E m) := h.pt

def notD (m : RM) : RM := fun ρ => ((m ρ).bind truD).map fun k => .bl (!k)
def andM (ma mb : RM) : RM := fun ρ => (bM ma ρ).bind fun k => if k = true then mb ρ else some (.bl false)
def orM (ma mb : RM) : RM := fun ρ => (bM ma ρ).bind fun k => if k = true then some (.bl true) else mb ρ
theorem f_not (ha : PE X a (tR ⟨X.K, cl, X.w⟩ E m)) : PE X (.UnaryOp .Not a pos) (tF ⟨X.K, cl, X.w⟩ E (notD m)) := PE_imp (pe_notT ha) fun σ H Q ⟨P, S, T, ρ, d, w, hm, q⟩ => by
  unfold notD at hm
  cases ea : m ρ with
  | none => rw [ea] at hm; cases hm
  | some da =>
    rw [ea] at hm
    cases et : truD da with
    | none => rw [Option.bind_some, et] at hm; cases hm
    | some k =>
      rw [Option.bind_some, et] at hm
      cases hm
      exact ⟨P, S, T, ρ, da, w, ea, fun v H' P' U g r => ⟨k, truD_v g.ph et r, (q.grow g).flat g.ph ⟨rfl, rfl⟩⟩⟩
theorem f_one {op} {m : RM} (h : PE X a (tF ⟨X.K, cl, X.w⟩ E m)) : PE X (.BoolOp op [a] pos) (tF ⟨X.K, cl, X.w⟩ E m) := pe_one h
theorem f_and {rest : List Expr} (ha : PE X a (tR ⟨X.K, cl, X.w⟩ E ma)) (hb : PE X (.BoolOp .And (b :: rest) pos) (tF ⟨X.K, cl, X.w⟩ E mb)) : PE X (.BoolOp .And (a :: b :: rest) pos) (tF ⟨X.K, cl, X.w⟩ E (andM ma mb)) := PE_imp (pe_and ha hb) fun σ H Q ⟨P, S, T, ρ, d, w, hm, q⟩ => by
  unfold andM at hm
  cases ea : bM ma ρ with
  | none => rw [ea] at hm; cases hm
  | some k =>
    rw [ea] at hm
    refine ⟨P, S, T, ρ, .bl k, w, bM_some ea, fun v H' P' U g r => ⟨k, r.1, ?_⟩⟩
    cases k with
    | true => exact iteT ⟨P', S, T, ρ, d, w.grow g, hm, q.grow g⟩
    | false => cases hm; exact iteF ((q.grow g).flat g.ph ⟨rfl, rfl⟩)
theorem f_or {rest : List Expr} (ha : PE X a (tR ⟨X.K, cl, X.w⟩ E ma)) (hb : PE X (.BoolOp .Or (b :: rest) pos) (tF ⟨X.K, cl, X.w⟩ E mb)) : PE X (.BoolOp .Or (a :: b :: rest) pos) (tF ⟨X.K, cl, X.w⟩ E (orM ma mb)) := PE_imp (pe_or ha hb) fun σ H Q ⟨P, S, T, ρ, d, w, hm, q⟩ => by
  unfold orM at hm
  cases ea : bM ma ρ with
  | none => rw [ea] at hm; cases hm
  | some k =>
    rw [ea] at hm
    refine ⟨P, S, T, ρ, .bl k, w, bM_some ea, fun v H' P' U g r => ⟨k, r.1, ?_⟩⟩
    cases k with
    | false => exact iteF ⟨P', S, T, ρ, d, w.grow g, hm, q.grow g⟩
    | true => cases hm; exact iteT ((q.grow g).flat g.ph ⟨rfl, rfl⟩)
def iteM (mc : BM) (ma mb : RM) : RM := fun ρ => (mc ρ).bind fun k => if k = true then ma ρ else mb ρ
def chM (f g : D → D → Option D) (ma mb mc : RM) : RM := fun ρ => (ma ρ).bind fun x => (mb ρ).bind fun y => (f x y).bind fun z => match z with | .bl true => (mc ρ).bind fun u => g y u | .bl false => some (.bl false) | _ => none
theorem ch_run {r r' : R2} {f g : D → D → Option D} {mc : RM} (hf : Op2 ⟨X.K, cl, X.w⟩ r f) (hg : Op2 ⟨X.K, cl, X.w⟩ r' g) {σ : St} {H : Hp} {Q : VK} (h : tF ⟨X.K, cl, X.w⟩ E (chM f g ma mb mc) σ H Q) : tChain r r' (tR ⟨X.K, cl, X.w⟩ E ma) (tR ⟨X.K, cl, X.w⟩ E mb) (tR ⟨X.K, cl, X.w⟩ E mc) σ H Q := by
  obtain ⟨P, S, T, ρ, d, w, hm, q⟩ := h
  unfold chM at hm
  cases ea : ma ρ with
  | none => rw [ea] at hm; cases hm
  | some da =>
    cases eb : mb ρ with
    | none => rw [ea, eb] at hm; cases hm
    | some db =>
      rw [ea, eb] at hm
      simp only [Option.bind_some] at hm
      cases ez : f da db with
      | none => rw [ez] at hm; cases hm
      | some z =>
        rw [ez, Option.bind_some] at hm
        refine ⟨P, S, T, ρ, da, w, ea, fun x H1 P1 U1 g1 r1 => ⟨P1, S, T, ρ, db, w.grow g1, eb, fun y H2 P2 U2 g2 r2 => ?_⟩⟩
        refine hf P2 H2 g2.ph _ _ _ _ _ _ _ ez (r1.gr g2) r2 _ fun v H3 P3 U3 g3 r3 _ _ => ?_
        split at hm
        · cases ec : mc ρ with
          | none => rw [ec] at hm; cases hm
          | some dc =>
            rw [ec] at hm
            refine ⟨true, r3.1, iteT ⟨P3, S, T, ρ, dc, ((w.grow g1).grow g2).grow g3, ec, fun u H4 P4 U4 g4 r4 => ?_⟩⟩
            exact hg P4 H4 g4.ph _ _ _ _ _ _ _ hm ((r2.gr g3).gr g4) r4 Q (q.grow (((g1.trans g2).trans g3).trans g4))
        · cases hm
          exact ⟨false, r3.1, iteF ((q.grow ((g1.trans g2).trans g3)).flat g3.ph ⟨rfl, rfl⟩)⟩
        · cases hm
theorem f_ch {r r' : R2} {f g : D → D → Option D} {mc : RM} {op op' : CmpOp} {c0 : Expr} (ho : OpR X (compareOp op) r) (hf : Op2 ⟨X.K, cl, X.w⟩ r f) (ho' : OpR X (compareOp op') r') (hg : Op2 ⟨X.K, cl, X.w⟩ r' g)
    (ha : PE X a (tR ⟨X.K, cl, X.w⟩ E ma)) (hb : PE X b (tR ⟨X.K, cl, X.w⟩ E mb)) (hc : PE X c0 (tR ⟨X.K, cl, X.w⟩ E mc)) (hm : lastMarks [op, op'] [b, c0] = false := by with_unfolding_all rfl) : PE X (.Compare a [op, op'] [b, c0] pos) (tF ⟨X.K, cl, X.w⟩ E (chM f g ma mb mc)) :=
  PE_imp (pe_chain ho ho' ha hb hc hm) fun _ _ _ h => ch_run hf hg h
theorem t_ch {r r' : R2} {f g : D → D → Option D} {mc : RM} {op op' : CmpOp} {c0 : Expr} (ho : OpR X (compareOp op) r) (hf : Op2 ⟨X.K, cl, X.w⟩ r f) (ho' : OpR X (compareOp op') r') (hg : Op2 ⟨X.K, cl, X.w⟩ r' g)
    (ha : PE X a (tR ⟨X.K, cl, X.w⟩ E ma)) (hb : PE X b (tR ⟨X.K, cl, X.w⟩ E mb)) (hc : PE X c0 (tR ⟨X.K, cl, X.w⟩ E mc)) (hm : lastMarks [op, op'] [b, c0] = false := by with_unfolding_all rfl) : PT X (.Compare a [op, op'] [b, c0] pos) (tT ⟨X.K, cl, X.w⟩ E (bM (chM f g ma mb mc))) :=
  t_test (pt_chain ho ho' ha hb hc hm) fun _ _ _ h => ch_run hf hg h

def mA (f : List D → Option D) (ms : AM) : RM := fun ρ => (ms ρ).bind f
def OpA (c : LC) (r : List V → Hp → VK → Prop) (f : List D → Option D) : Prop := ∀ (P H : Hp), Ex P H → ∀ ds d vs U, f ds = some d → RepL c P H ds vs U → ∀ Q, FQ c P H d Q → r vs H Q
theorem opA_run {r : List V → Hp → VK → Prop} {f : List D → Option D} {ms : AM} (hf : OpA ⟨X.K, cl, X.w⟩ r f) {σ : St} {H : Hp} {Q : VK} (h : tF ⟨X.K, cl, X.w⟩ E (mA f ms) σ H Q) : tCB r (tAR ⟨X.K, cl, X.w⟩ E ms) σ H Q := by
  obtain ⟨P, S, T, ρ, d, w, hm, q⟩ := h
  unfold mA at hm
  cases ea : ms ρ with
  | none => rw [ea] at hm; cases hm
  | some ds =>
    rw [ea] at hm
    exact ⟨P, S, T, ρ, ds, w, ea, fun vs H1 P1 U1 g1 r1 => hf P1 H1 g1.ph ds d vs U1 hm r1 Q (q.grow g1)⟩
theorem f_blt {r : List V → Hp → VK → Prop} {f : List D → Option D} {ms : AM} {id : String} {x : Str} {es : List Expr} {p : Pos} (hc : CallR X (.builtin id) r) (hf : OpA ⟨X.K, cl, X.w⟩ r f) (hg : Gl X x) (hm : X.mg x = none) (hv : bootBuiltins x = some (.builtin id)) (ha : PA X (e :: es) (tAR ⟨X.K, cl, X.w⟩ E ms)) (hn : x ≠ "__name__" := by decide) (hdb : (x == ("__debug__" : Str)) = false := by decide)
    (he : starEach (e :: es) X.env = (false, eval e X.env) :: starEach es X.env := by rfl) (hpl : (backTo pos (starEach es X.env)).any (·.1) = false := by rfl) : PE X (.Call (.Name x p) (e :: es) [] pos) (tF ⟨X.K, cl, X.w⟩ E (mA f ms)) :=
  PE_imp (pe_callB hc hg hm hv ha hn hdb he hpl) fun _ _ _ h => opA_run hf h
theorem f_bty {r : List V → Hp → VK → Prop} {f : List D → Option D} {ms : AM} {id : String} {x : Str} {es : List Expr} {p : Pos} (hc : CallR X (.type id) r) (hf : OpA ⟨X.K, cl, X.w⟩ r f) (hg : Gl X x) (hm : X.mg x = none) (hv : bootBuiltins x = some (.type id)) (ha : PA X (e :: es) (tAR ⟨X.K, cl, X.w⟩ E ms)) (hn : x ≠ "__name__" := by decide) (hdb : (x == ("__debug__" : Str)) = false := by decide)
    (he : starEach (e :: es) X.env = (false, eval e X.env) :: starEach es X.env := by rfl) (hpl : (backTo pos (starEach es X.env)).any (·.1) = false := by rfl) : PE X (.Call (.Name x p) (e :: es) [] pos) (tF ⟨X.K, cl, X.w⟩ E (mA f ms)) :=
  PE_imp (pe_callTy hc hg hm hv ha hn hdb he hpl) fun _ _ _ h => opA_run hf h
theorem repL1 {c : LC} {P H : Hp} {d : D} {vs : List V} {U : FP} (r : RepL c P H [d] vs U) : ∃ v T, vs = [v] ∧ Rep c P H d v T := by
  obtain ⟨y, ys, T, T2, e, r1, r2, _⟩ := r
  rw [r2.1] at e
  exact ⟨y, T, e, r1⟩
def lenD : List D → Option D
  | [.str s] => if s.length ≤ LIM then some (.int s.length) else none
  | [.tup ds] => some (.int ds.length)
  | [.lst _ ds] => some (.int ds.length)
  | [.scr ns] => some (.int ns.length)
  | [.dK _ ks _] => some (.int ks.length)
  | _ => none
def rLenA (K : PySem.W.Frag) : List V → Hp → VK → Prop := fun xs H Q => (∃ x n, xs = [x] ∧ LenV K x H n ∧ Q (.int n) H) ∨ (∃ a kvs, xs = [V.ref a] ∧ H a = some (.dK kvs) ∧ Q (.int kvs.length) H)
theorem cr_len : CallR X (.builtin "len") (rLenA X.K) := call_len.or call_lenD
theorem op_lenD {c : LC} : OpA c (rLenA c.K) lenD := by
  intro P H e ds d vs U hf r Q q
  unfold lenD at hf
  split at hf
  · split at hf
    · rename_i s hl
      cases hf
      obtain ⟨v, T, rfl, r1⟩ := repL1 r
      exact .inl ⟨_, _, rfl, by rw [r1.1]; exact ⟨by rw [str_len]; exact lim_le hl, by rw [str_len]⟩, q.flat e ⟨rfl, rfl⟩⟩
    · cases hf
  · cases hf
    obtain ⟨v, T, rfl, a, xs, rfl, h, rl⟩ := repL1 r
    exact .inl ⟨_, _, rfl, .inr ⟨xs, sqt_mono e h, rfl⟩, by rw [← rl.length]; exact q.flat e ⟨rfl, rfl⟩⟩
  · cases hf
    obtain ⟨v, T, rfl, r1⟩ := repL1 r
    obtain ⟨a, xs, T', rfl, h, rl, _⟩ := lst_heap e r1
    exact .inl ⟨_, _, rfl, .inl ⟨xs, .inl (.inl h), rfl⟩, by rw [← rl.length]; exact q.flat e ⟨rfl, rfl⟩⟩
  · cases hf
    obtain ⟨v, T, rfl, a, rfl, h, _⟩ := repL1 r
    exact .inl ⟨_, _, rfl, .inl ⟨_, sql_mono e h, rfl⟩, by rw [List.length_map]; exact q.flat e ⟨rfl, rfl⟩⟩
  · rename_i o ks ds'
    cases hf
    obtain ⟨v, T, rfl, r1⟩ := repL1 r
    right
    have : ∃ a xs, v = .ref a ∧ H a = some (.dK (ks.zip xs)) ∧ ks.length = xs.length := by
      cases o with
      | true => obtain ⟨a, xs, T, e1, h, n, _⟩ := r1; exact ⟨a, xs, e1, h, n⟩
      | false => obtain ⟨a, xs, e1, h, n, _⟩ := r1; exact ⟨a, xs, e1, e _ _ h, n⟩
    obtain ⟨a, xs, rfl, h, n⟩ := this
    refine ⟨a, _, rfl, h, ?_⟩
    rw [List.length_zip, ← n, Nat.min_self]
    exact q.flat e ⟨rfl, rfl⟩
  · cases hf
def max2D : List D → Option D
  | [.int i, .int j] => some (.int (if j > i then j else i))
  | _ => none
def min2D : List D → Option D
  | [.int i, .int j] => some (.int (if j < i then j else i))
  | _ => none
def intD : List D → Option D
  | [.int i] => some (.int i)
  | [.bl k] => some (.int (if k then 1 else 0))
  | _ => none
theorem op_intD {c : LC} : OpA c (fun xs H Q => (∃ i, xs = [.int i] ∧ Q (.int i) H) ∨ ∃ k, xs = [.bl k] ∧ Q (.int (if k then 1 else 0)) H) intD := by
  intro P H e ds d vs U hf r Q q
  unfold intD at hf
  split at hf
  · cases hf
    obtain ⟨v, T, rfl, r1⟩ := repL1 r
    exact .inl ⟨_, by rw [r1.1], q.flat e ⟨rfl, rfl⟩⟩
  · cases hf
    obtain ⟨v, T, rfl, r1⟩ := repL1 r
    exact .inr ⟨_, by rw [r1.1], q.flat e ⟨rfl, rfl⟩⟩
  · cases hf
def intsD : List D → Option (List Int)
  | [] => some []
  | .int i :: ds => (intsD ds).map fun is => i :: is
  | _ :: _ => none
def sumD : List D → Option D
  | [.lst _ ds] => (intsD ds).map fun is => .int is.sum
  | _ => none
def listD : List D → Option D
  | [.lst _ ds] => if frzL ds = true then some (.lst true ds) else none
  | [.tup ds] => if frzL ds = true then some (.lst true ds) else none
  | [.scr ns] => some (.lst true (ns.map .int))
  | _ => none
theorem op_listD {c : LC} : OpA c (fun xs H Q => ∃ p ys, xs = [.ref p] ∧ (SqL c.K H p ys ∨ SqT c.K H p ys) ∧ ∀ l, H l = none → Q (.ref l) (upd H l (.lst ys))) listD := by
  intro P H e ds d vs U hf r Q q
  unfold listD at hf
  split at hf
  · split at hf
    · rename_i hl
      cases hf
      obtain ⟨v, T, rfl, r1⟩ := repL1 r
      obtain ⟨p, xs, rfl, hh, rl⟩ := lst_heap0 e r1 hl
      exact ⟨p, xs, rfl, .inl (.inl (.inl hh)), q.lst e rl⟩
    · cases hf
  · split at hf
    · rename_i hl
      cases hf
      obtain ⟨v, T, rfl, r1⟩ := repL1 r
      obtain ⟨p, xs, rfl, hh, _, rl⟩ := tup_heap0 e r1 hl
      exact ⟨p, xs, rfl, .inr hh, q.lst e rl⟩
    · cases hf
  · cases hf
    obtain ⟨v, T, rfl, p, rfl, hh, _⟩ := repL1 r
    exact ⟨p, _, rfl, .inl (sql_mono e hh), q.lst e (repL_ints _)⟩
  · cases hf
def tyD : D → Option String
  | .non => some "NoneType"
  | .bl _ => some "bool"
  | .int _ => some "int"
  | .str _ => some "str"
  | .scr _ => some "list"
  | .lst .. => some "list"
  | .tup _ => some "tuple"
  | .dK .. => some "dict"
  | .dT .. => some "dict"
  | _ => none
theorem ty_v {c : LC} {P H : Hp} (e : Ex P H) : ∀ {d : D} {v : V} {U : FP} {t : String}, tyD d = some t → Rep c P H d v U → TyX c.K H v (.type t)
  | .non, v, U, t, h, r => by cases h; rw [r.1]; exact .base .non
  | .bl b, v, U, t, h, r => by cases h; rw [r.1]; exact .base (.bl b)
  | .int b, v, U, t, h, r => by cases h; rw [r.1]; exact .base (.int b)
  | .str b, v, U, t, h, r => by cases h; rw [r.1]; exact .base (.str _)
  | .scr ns, v, U, t, h, ⟨a, e1, q, _⟩ => by
    cases h; rw [e1]
    rcases q with (q | ⟨o, q⟩) | ⟨o, its, n, q, q2, _⟩
    · exact .base (.lst (e _ _ q))
    · exact .base (.frz (e _ _ q))
    · exact .kList q q2
  | .tup ds, v, U, t, h, ⟨a, xs, e1, q, _⟩ => by
    cases h; rw [e1]
    rcases q with (q | ⟨o, q⟩) | ⟨o, its, n, q, q2, _⟩
    · exact .base (.tup (e _ _ q))
    · exact .fTuple (e _ _ q)
    · exact .kTuple q q2
  | .lst o ds, v, U, t, h, r => by
    cases h
    obtain ⟨a, xs, T, e1, hh, _⟩ := lst_heap e r
    rw [e1]; exact .base (.lst hh)
  | .dK true _ _, v, U, t, h, ⟨a, _, _, e1, q, _⟩ => by cases h; rw [e1]; exact .base (.dK q)
  | .dK false _ _, v, U, t, h, ⟨a, _, e1, q, _⟩ => by cases h; rw [e1]; exact .base (.dK (e _ _ q))
  | .dT true _ _, v, U, t, h, ⟨a, _, _, e1, q, _⟩ => by cases h; rw [e1]; exact .base (.dT q)
  | .dT false _ _, v, U, t, h, ⟨a, _, e1, q, _⟩ => by cases h; rw [e1]; exact .base (.dT (e _ _ q))
def isiM (ty : String) (m : RM) : RM := fun ρ => (m ρ).bind fun d => (tyD d).bind fun t => (kitB t ty).map .bl
theorem f_isi {ty : String} {b0 : Expr} {x : Str} {p : Pos} (hg : Gl X x) (hm : X.mg x = none) (hv : bootBuiltins x = some (.builtin "isinstance")) (ha : PE X a (tR ⟨X.K, cl, X.w⟩ E ma)) (hb : PE X b0 (tC (.ty ty)))
    (hn : x ≠ "__name__" := by decide) (hdb : (x == ("__debug__" : Str)) = false := by decide)
    (hs1 : starEach [a, b0] X.env = (false, eval a X.env) :: starEach [b0] X.env := by rfl) (hs2 : starEach [b0] X.env = (false, eval b0 X.env) :: starEach [] X.env := by rfl) (hpl : (backTo pos (starEach [b0] X.env)).any (·.1) = false := by rfl) : PE X (.Call (.Name x p) [a, b0] [] pos) (tF ⟨X.K, cl, X.w⟩ E (isiM ty ma)) :=
  PE_imp (pe_callB call_isi hg hm hv (pa_cons ha (pa_cons hb pa_nil hs2) hs1) hn hdb hs1 hpl) fun σ H Q ⟨P, S, T, ρ, d, w, h, q⟩ => by
    unfold isiM at h
    cases ea : ma ρ with
    | none => rw [ea] at h; cases h
    | some da =>
      rw [ea, Option.bind_some] at h
      cases et : tyD da with
      | none => rw [et] at h; cases h
      | some t =>
        rw [et, Option.bind_some] at h
        cases ek : kitB t ty with
        | none => rw [ek] at h; cases h
        | some k =>
          rw [ek] at h
          cases h
          exact ⟨P, S, T, ρ, da, w, ea, fun v H1 P1 U1 g1 r1 => ⟨v, .ty ty, .type t, .type ty, k, rfl, .ty ty, ty_v g1.ph et r1, kit_ty ek, (q.grow g1).flat g1.ph ⟨rfl, rfl⟩⟩⟩
end
end LI

namespace LI
open PySem L2

def IterOK (c : LC) (P : Hp) (J : It) (ds : List D) : Prop := ∃ (G : Hp → Prop) (Y : Nat → Hp → V → Hp → Prop), Walk J ds.length G Y ∧ (∀ P2 H2, Ex P P2 → Ex P2 H2 → G H2) ∧
  ∀ i P2 H2 x H3, Ex P P2 → Ex P2 H2 → i < ds.length → Y i H2 x H3 → ∃ P3 d, Gr P2 H2 P3 H3 ∧ ds[i]? = some d ∧ Rep c P3 H3 d x fz
def tI (c : LC) (E : En) (m : AM) : TI := fun σ H R => ∃ P S T ρ ds, Wd c E P S T σ H ρ ∧ m ρ = some ds ∧ ∀ J H' P', Gr P H P' H' → IterOK c P' J ds → R J H'
theorem PI_imp {X : Cx} {tg e : Expr} {t t' : TI} (h : PI X tg e t) (k : ∀ σ H R, t' σ H R → t σ H R) : PI X tg e t' := ⟨fun pins s σ H R I q => h.run pins s σ H R I (k σ H R q)⟩
theorem PI_or {X : Cx} {tg e : Expr} {t u : TI} (h : PI X tg e t) (k : PI X tg e u) : PI X tg e (fun σ H Q => t σ H Q ∨ u σ H Q) := ⟨fun pins s σ H Q I q => q.elim (h.run pins s σ H Q I) (k.run pins s σ H Q I)⟩
def strsD (s : List Nat) : List D := s.map fun k => .str [k]
def itemsD : D → Option (List D)
  | .lst false ds => if frzL ds = true then some ds else none
  | .tup ds => if frzL ds = true then some ds else none
  | .scr ns => some (ns.map .int)
  | .str s => some (strsD s)
  | _ => none
def itM (m : RM) : AM := fun ρ => (m ρ).bind itemsD
theorem rep_get0 {c : LC} {P H : Hp} {ds : List D} {xs : List V} {i : Nat} {x : V} (r : RepL c P H ds xs fz) (h : xs[i]? = some x) : ∃ d, ds[i]? = some d ∧ Rep c P H d x fz := by
  have hi : i < ds.length := by rw [r.length]; exact (List.getElem?_eq_some_iff.mp h).1
  obtain ⟨y, T, h1, h2, h3⟩ := r.get (List.getElem?_eq_getElem hi)
  rw [h1] at h
  cases h
  have : T = fz := by funext a; have := h3 a; simp only [fz] at this ⊢; omega
  subst this
  exact ⟨_, List.getElem?_eq_getElem hi, h2⟩
theorem iter_lst {c : LC} {P : Hp} {a : Addr} {xs : List V} {ds : List D} {H : Hp} (h : SqL c.K P a xs) (r : RepL c P H ds xs fz) (hp : ∀ H', RepL c P H' ds xs fz) : IterOK c P (Itl c.K a) ds := by
  refine ⟨_, _, by rw [r.length]; exact walk_list (xs := xs), fun P2 H2 e1 e2 => sql_mono e2 (sql_mono e1 h), fun i P2 H2 x H3 e1 e2 hi y => ?_⟩
  obtain ⟨rfl, hx⟩ := y
  obtain ⟨d, h1, h2⟩ := rep_get0 (hp H3) hx
  exact ⟨P2, d, .refl e2, h1, Rep.mono e1 d x fz (fun a o z _ => by simp [fz] at z) h2⟩
theorem iter_tup {c : LC} {P : Hp} {a : Addr} {xs : List V} {ds : List D} {H : Hp} (h : SqT c.K P a xs) (r : RepL c P H ds xs fz) (hp : ∀ H', RepL c P H' ds xs fz) : IterOK c P (Itt c.K a) ds := by
  refine ⟨_, _, by rw [r.length]; exact walk_tup (xs := xs), fun P2 H2 e1 e2 => sqt_mono e2 (sqt_mono e1 h), fun i P2 H2 x H3 e1 e2 hi y => ?_⟩
  obtain ⟨rfl, hx⟩ := y
  obtain ⟨d, h1, h2⟩ := rep_get0 (hp H3) hx
  exact ⟨P2, d, .refl e2, h1, Rep.mono e1 d x fz (fun a o z _ => by simp [fz] at z) h2⟩
theorem repL_h {c : LC} {P H H' : Hp} {ds : List D} {xs : List V} (r : RepL c P H ds xs fz) : RepL c P H' ds xs fz := RepL.mono (.refl _) ds xs fz (fun a o z _ => by simp [fz] at z) r
section
variable {X : Cx} {cl : Nat → Addr} {E : En} {e a b tg : Expr} {pos : Pos} {m ma mb : RM}
theorem i_seq (h : PE X e (tR ⟨X.K, cl, X.w⟩ E m)) : PI X tg e (tI ⟨X.K, cl, X.w⟩ E (itM m)) := by
  refine PI_imp (PI_or (pi_list h) (PI_or (pi_tup h) (pi_str h))) fun σ H R ⟨P, S, T, ρ, ds, w, hm, q⟩ => ?_
  unfold itM at hm
  cases ea : m ρ with
  | none => rw [ea] at hm; cases hm
  | some d =>
    rw [ea] at hm
    replace hm : itemsD d = some ds := hm
    unfold itemsD at hm
    split at hm
    · split at hm
      · rename_i hf
        cases hm
        refine .inl ⟨P, S, T, ρ, _, w, ea, fun v H1 P1 U1 g1 r1 => ?_⟩
        obtain ⟨p, xs, e1, hp, rl⟩ := r1
        have z := RepL.frz0 _ xs _ hf rl
        subst z
        exact ⟨p, e1, ⟨xs, .inl (.inl (g1.ph _ _ hp))⟩, q _ H1 P1 g1 (iter_lst (.inl (.inl hp)) rl fun _ => repL_h rl)⟩
      · cases hm
    · split at hm
      · rename_i hf
        cases hm
        refine .inr (.inl ⟨P, S, T, ρ, _, w, ea, fun v H1 P1 U1 g1 r1 => ?_⟩)
        obtain ⟨p, xs, e1, hp, rl⟩ := r1
        have z := RepL.frz0 _ xs _ hf rl
        subst z
        exact ⟨p, e1, ⟨xs, sqt_mono g1.ph hp⟩, q _ H1 P1 g1 (iter_tup hp rl fun _ => repL_h rl)⟩
      · cases hm
    · cases hm
      refine .inl ⟨P, S, T, ρ, _, w, ea, fun v H1 P1 U1 g1 r1 => ?_⟩
      obtain ⟨p, e1, hp, _⟩ := r1
      exact ⟨p, e1, ⟨_, sql_mono g1.ph hp⟩, q _ H1 P1 g1 (iter_lst (H := H1) hp (repL_ints _) fun _ => repL_ints _)⟩
    · rename_i s
      cases hm
      refine .inr (.inr ⟨P, S, T, ρ, _, w, ea, fun v H1 P1 U1 g1 r1 => ⟨_, r1.1, q _ H1 P1 g1 ?_⟩⟩)
      refine ⟨_, _, by rw [show (strsD s).length = (⟨s.toArray⟩ : Str).cps.size by simp [strsD]]; exact walk_str, fun _ _ _ _ => True.intro, fun i P2 H2 x H3 e1 e2 hi y => ?_⟩
      obtain ⟨rfl, k, hk, rfl⟩ := y
      refine ⟨P2, .str [k], .refl e2, ?_, ⟨rfl, rfl⟩⟩
      have hk' : s[i]? = some k := by simpa using hk
      simp [strsD, hk']
    · cases hm
def upD (lo : Int) (n : Nat) : List D := (List.range n).map fun (k : Nat) => D.int (lo + (k : Int))
def rng1M (m : RM) : AM := fun ρ => (m ρ).bind fun d => match d with | .int j => if -(2 ^ 62) ≤ j ∧ j < 2 ^ 62 then some (upD 0 j.toNat) else none | _ => none
def rng2M (ma mb : RM) : AM := fun ρ => (ma ρ).bind fun x => (mb ρ).bind fun y => match x, y with | .int i, .int j => if -(2 ^ 62) ≤ i ∧ i < 2 ^ 62 ∧ -(2 ^ 62) ≤ j ∧ j < 2 ^ 62 then some (upD i (j - i).toNat) else none | _, _ => none
theorem iter_rng {c : LC} {P : Hp} (lo : Int) (n : Nat) : IterOK c P (Itr lo n) (upD lo n) := by
  refine ⟨_, _, by rw [show (upD lo n).length = n by simp [upD]]; exact walk_range, fun _ _ _ _ => True.intro, fun i P2 H2 x H3 e1 e2 hi y => ?_⟩
  obtain ⟨rfl, rfl⟩ := y
  have hi' : i < n := by simpa [upD] using hi
  refine ⟨P2, .int (lo + (i : Int)), .refl e2, ?_, ⟨rfl, rfl⟩⟩
  simp [upD, hi']
theorem i_rng1 {p : Pos} (hg : Gl X "range") (hm : X.mg "range" = none) (ha : PE X a (tR ⟨X.K, cl, X.w⟩ E m)) (hs : starEach [a] X.env = [(false, eval a X.env)] := by rfl) : PI X tg (.Call (.Name "range" p) [a] [] pos) (tI ⟨X.K, cl, X.w⟩ E (rng1M m)) :=
  PI_imp (pi_range1 hg hm (pa_cons ha pa_nil hs) hs) fun σ H R ⟨P, S, T, ρ, ds, w, h, q⟩ => by
    unfold rng1M at h
    cases ea : m ρ with
    | none => rw [ea] at h; cases h
    | some d =>
      rw [ea] at h
      cases d with
      | int j =>
        simp only [Option.bind_some] at h
        split at h
        · rename_i hb
          cases h
          exact ⟨P, S, T, ρ, _, w, ea, fun v H1 P1 U1 g1 r1 => ⟨j, by rw [r1.1], hb.1, hb.2, q _ H1 P1 g1 (iter_rng 0 _)⟩⟩
        · cases h
      | _ => cases h
abbrev TgM := D → List D → Option (List D)
theorem fa_assoc (S T U : FP) : fa (fa S T) U = fa S (fa T U) := by funext a; simp only [fa]; omega
theorem fa_comm (S T : FP) : fa S T = fa T S := by funext a; simp only [fa]; omega
theorem Wd.shrink {c : LC} {P H : Hp} {S S' T T' : FP} {σ σ' : St} {ρ ρ' : List D} (w : Wd c E P S T σ H ρ) (he : RepE c P H ρ' σ' S') (hl : ∀ a, S' a + T' a ≤ S a + T a) (ht : ∀ a, T' a ≤ T a) (hk : ∀ (i : Nat) (v : V), E.kp[i]? = some true → E.vs[i]? = some v → σ'[i]? = some (some v)) : Wd c E P S' T' σ' H ρ' :=
  ⟨he, fun a => Nat.le_trans (hl a) (w.le a), fun a h => w.out a (Nat.lt_of_lt_of_le h (hl a)), fun a h => w.th a (Nat.lt_of_lt_of_le h (ht a)), w.ph, w.p0, w.fr, w.np, fun a h => w.ns a (Nat.lt_of_lt_of_le h (hl a)), hk⟩
theorem Wd.drop {c : LC} {P H : Hp} {S T U : FP} {σ : St} {ρ : List D} (w : Wd c E P S (fa T U) σ H ρ) : Wd c E P S T σ H ρ := w.shrink w.env (fun a => by simp only [fa]; omega) (fun a => by simp only [fa]; omega) w.kp
theorem RepE.set {c : LC} {P H : Hp} {d : D} {v : V} {U : FP} (r : Rep c P H d v U) : ∀ {ρ : List D} {σ : St} {S : FP} (i : Nat), RepE c P H ρ σ S → ∃ S', RepE c P H (ρ.set i d) (σ.set i (some v)) S' ∧ ∀ a, S' a ≤ S a + U a
  | [], [], S, i, h => ⟨S, h, fun a => by omega⟩
  | d0 :: ρ, v0 :: σ, S, 0, ⟨T, T2, h1, h2, f⟩ => ⟨fa U T2, ⟨U, T2, r, h2, rfl⟩, fun a => by rw [f]; simp only [fa]; omega⟩
  | d0 :: ρ, v0 :: σ, S, i + 1, ⟨T, T2, h1, h2, f⟩ => by
    obtain ⟨S', k1, k2⟩ := RepE.set r i h2
    exact ⟨fa T S', ⟨T, S', h1, k1, rfl⟩, fun a => by have := k2 a; rw [f]; simp only [fa]; omega⟩
  | [], _ :: _, _, _, h => h.elim
  | _ :: _, [], _, _, h => h.elim
theorem Wd.store {c : LC} {P H : Hp} {S T U : FP} {σ : St} {ρ : List D} {d : D} {v : V} (w : Wd c E P S (fa T U) σ H ρ) (r : Rep c P H d v U) (i : Nat) (hk : E.kp[i]? ≠ some true) : ∃ S', Wd c E P S' T (σ.set i (some v)) H (ρ.set i d) := by
  obtain ⟨S', h1, h2⟩ := RepE.set r i w.env
  refine ⟨S', w.shrink h1 (fun a => by have := h2 a; simp only [fa]; omega) (fun a => by simp only [fa]; omega) fun j u h3 h4 => ?_⟩
  have : j ≠ i := fun z => hk (z ▸ h3)
  rw [List.getElem?_set_ne (Ne.symm this)]
  exact w.kp j u h3 h4
def tPG (c : LC) (E : En) (tl : List Nat) (f : TgM) : TG := fun v σ H Q => ∃ P S T U ρ d ρ', Wd c E P S (fa T U) σ H ρ ∧ Rep c P H d v U ∧ f d ρ = some ρ' ∧
  ∀ σ' S', Wd c E P S' T σ' H ρ' → σ'.length = σ.length → (∀ j, j ∉ tl → σ'[j]? = σ[j]?) → Q σ' H
def tPGs (c : LC) (E : En) (tl : List Nat) (f : List D → List D → Option (List D)) : TGs := fun vs σ H Q => ∃ P S T U ρ ds ρ', Wd c E P S (fa T U) σ H ρ ∧ RepL c P H ds vs U ∧ f ds ρ = some ρ' ∧
  ∀ σ' S', Wd c E P S' T σ' H ρ' → σ'.length = σ.length → (∀ j, j ∉ tl → σ'[j]? = σ[j]?) → Q σ' H
theorem PG_imp {t t' : TG} (h : PG X e t) (k : ∀ v σ H Q, t' v σ H Q → t v σ H Q) : PG X e t' := ⟨fun pins s σ H v u Q I r q => h.run pins s σ H v u Q I r (k v σ H Q q)⟩
theorem PGs_imp {es : List Expr} {t t' : TGs} (h : PGs X es t) (k : ∀ v σ H Q, t' v σ H Q → t v σ H Q) : PGs X es t' := ⟨fun pins s σ H v u Q I r q => h.run pins s σ H v u Q I r (k v σ H Q q)⟩
def nameT (i : Nat) : TgM := fun d ρ => some (ρ.set i d)
def tupT (f : List D → List D → Option (List D)) : TgM := fun d ρ => match d with | .tup ds => f ds ρ | _ => none
def nilT : List D → List D → Option (List D) := fun ds ρ => match ds with | [] => some ρ | _ => none
def consT (f : TgM) (g : List D → List D → Option (List D)) : List D → List D → Option (List D) := fun ds ρ => match ds with | d :: ds => (f d ρ).bind fun ρ => g ds ρ | _ => none
theorem g_name (i : Nat) {x : Str} (hN : X.N.Nodup) (hi : X.N[i]? = some x) (hx : Loc X.env.scope x) (hk : E.kp[i]? ≠ some true) (hf : X.fn x = true ∨ X.env.scope.names.lookup x = some .local := by first | exact .inl rfl | exact .inr rfl | assumption) : PG X (.Name x pos) (tPG ⟨X.K, cl, X.w⟩ E [i] (nameT i)) :=
  PG_imp (pg_name hN hi hx hf) fun v σ H Q ⟨P, S, T, U, ρ, d, ρ', w, r, hm, q⟩ => by
    cases hm
    obtain ⟨S', w'⟩ := w.store r i hk
    exact q _ S' w' (by simp) fun j hj => List.getElem?_set_ne (fun z => hj (by simp [z]))
theorem gs_nil : PGs X [] (tPGs ⟨X.K, cl, X.w⟩ E [] nilT) := PGs_imp pgs_nil fun v σ H Q ⟨P, S, T, U, ρ, ds, ρ', w, r, hm, q⟩ => by
  cases ds with
  | nil => cases hm; exact ⟨r.1, q σ S (w.drop) rfl fun _ _ => rfl⟩
  | cons _ _ => cases hm
theorem gs_cons {es : List Expr} {tl tl2 : List Nat} {f : TgM} {g : List D → List D → Option (List D)} (h1 : PG X e (tPG ⟨X.K, cl, X.w⟩ E tl f)) (h2 : PGs X es (tPGs ⟨X.K, cl, X.w⟩ E tl2 g))
    (hs : (assignEach (e :: es) X.env).map (·.2) = assign e X.env :: (assignEach es X.env).map (·.2) := by rfl) : PGs X (e :: es) (tPGs ⟨X.K, cl, X.w⟩ E (tl ++ tl2) (consT f g)) := PGs_imp (pgs_cons h1 h2 hs) fun v σ H Q ⟨P, S, T, U, ρ, ds, ρ', w, r, hm, q⟩ => by
  cases ds with
  | nil => cases hm
  | cons d ds =>
    obtain ⟨y, ys, U1, U2, e1, r1, r2, hu⟩ := r
    subst hu
    replace hm : ((f d ρ).bind fun ρ => g ds ρ) = some ρ' := hm
    cases ef : f d ρ with
    | none => rw [ef] at hm; cases hm
    | some ρ1 =>
      rw [ef] at hm
      refine ⟨y, ys, e1, P, S, fa T U2, U1, ρ, d, ρ1, ?_, r1, ef, fun σ1 S1 w1 l1 k1 => ⟨P, S1, T, U2, ρ1, ds, ρ', w1, r2, hm, fun σ2 S2 w2 l2 k2 => q σ2 S2 w2 (l2.trans l1) fun j hj => ?_⟩⟩
      · have : fa (fa T U2) U1 = fa T (fa U1 U2) := by rw [fa_assoc, fa_comm U2 U1]
        rw [this]; exact w
      · simp only [List.mem_append, not_or] at hj
        rw [k2 j hj.2, k1 j hj.1]
theorem g_tup {es : List Expr} {k : Nat} {tl : List Nat} {f : List D → List D → Option (List D)} {n : Nat} (hc : X.calm = true) (h : PGs X es (tPGs ⟨X.K, cl, X.w⟩ E tl f))
    (hn : (assignEach es X.env).length = n := by rfl) (hst : (assignEach es X.env).findIdx? (·.1) = none := by rfl) (hlen : ∀ ds ρ ρ', f ds ρ = some ρ' → ds.length = n := by intro ds ρ ρ' h; rcases ds with _ | ⟨_, ds⟩ <;> simp_all) : PG X (.Tuple es k pos) (tPG ⟨X.K, cl, X.w⟩ E tl (tupT f)) := PG_imp (pg_tup hc h hn hst) fun v σ H Q ⟨P, S, T, U, ρ, d, ρ', w, r, hm, q⟩ => by
  cases d with
  | tup ds =>
    obtain ⟨a, xs, e1, hp, rl⟩ := r
    exact ⟨a, xs, e1, sqt_mono w.ph hp, by rw [← rl.length]; exact hlen ds ρ ρ' hm, P, S, T, U, ρ, ds, ρ', w, rl, hm, q⟩
  | _ => cases hm
theorem len_nil {ds ρ ρ' : List D} (h : nilT ds ρ = some ρ') : ds.length = 0 := by cases ds <;> first | rfl | cases h
theorem len_cons {f : TgM} {g : List D → List D → Option (List D)} {n : Nat} (hg : ∀ ds ρ ρ', g ds ρ = some ρ' → ds.length = n) (ds ρ ρ' : List D) (h : consT f g ds ρ = some ρ') : ds.length = n + 1 := by
  cases ds with
  | nil => cases h
  | cons d ds =>
    replace h : ((f d ρ).bind fun ρ => g ds ρ) = some ρ' := h
    cases ef : f d ρ with
    | none => rw [ef] at h; cases h
    | some ρ1 => rw [ef] at h; rw [List.length_cons, hg ds ρ1 ρ' h]
end

def goneAt (ρ : List D) : List Nat → List D
  | [] => ρ
  | v :: vs => (goneAt ρ vs).set v .gone
section
variable {X : Cx} {cl : Nat → Addr} {E : En} {e a b tg : Expr} {pos : Pos} {m ma mb : RM}
theorem RepE.gone {c : LC} {P H : Hp} : ∀ {ρ : List D} {σ : St} {S : FP} (i : Nat), RepE c P H ρ σ S → ∃ S', RepE c P H (ρ.set i .gone) (σ.set i none) S' ∧ ∀ a, S' a ≤ S a
  | [], [], S, i, h => ⟨S, h, fun a => Nat.le_refl _⟩
  | d0 :: ρ, v0 :: σ, S, 0, ⟨T, T2, h1, h2, f⟩ => ⟨fa fz T2, ⟨fz, T2, ⟨rfl, rfl⟩, h2, rfl⟩, fun a => by rw [f]; simp only [fa, fz]; omega⟩
  | d0 :: ρ, v0 :: σ, S, i + 1, ⟨T, T2, h1, h2, f⟩ => by
    obtain ⟨S', k1, k2⟩ := RepE.gone i h2
    exact ⟨fa T S', ⟨T, S', h1, k1, rfl⟩, fun a => by have := k2 a; rw [f]; simp only [fa]; omega⟩
  | [], _ :: _, _, _, h => h.elim
  | _ :: _, [], _, _, h => h.elim
theorem RepE.wipe {c : LC} {P H : Hp} {ρ : List D} {σ : St} {S : FP} (h : RepE c P H ρ σ S) : ∀ vs : List Nat, ∃ S', RepE c P H (goneAt ρ vs) (L2.wipe σ vs) S' ∧ ∀ a, S' a ≤ S a
  | [] => ⟨S, h, fun _ => Nat.le_refl _⟩
  | v :: vs => by
    obtain ⟨S1, h1, h2⟩ := RepE.wipe h vs
    obtain ⟨S2, h3, h4⟩ := RepE.gone v h1
    exact ⟨S2, h3, fun a => Nat.le_trans (h4 a) (h2 a)⟩
theorem wipe_at {σ : St} : ∀ {vs : List Nat} {j : Nat}, j ∉ vs → (L2.wipe σ vs)[j]? = σ[j]?
  | [], j, _ => rfl
  | v :: vs, j, h => by
    simp only [List.mem_cons, not_or] at h
    unfold L2.wipe
    rw [List.getElem?_set_ne (fun z => h.1 z.symm), wipe_at h.2]
theorem wipe_in {σ : St} : ∀ {vs : List Nat} {j : Nat}, j ∈ vs → j < σ.length → (L2.wipe σ vs)[j]? = some none
  | v :: vs, j, h, hl => by
    unfold L2.wipe
    by_cases z : v = j
    · subst z; rw [List.getElem?_set_self (by rw [wipe_length]; exact hl)]
    · rw [List.getElem?_set_ne z]
      exact wipe_in (by simpa [Ne.symm z] using h) hl
theorem wipe_eq {σ σ' : St} {vs : List Nat} (hl : σ'.length = σ.length) (h : ∀ j, j ∉ vs → σ'[j]? = σ[j]?) : L2.wipe σ' vs = L2.wipe σ vs := by
  apply List.ext_getElem?
  intro j
  by_cases hj : j ∈ vs
  · by_cases z : j < σ.length
    · rw [wipe_in hj (by omega), wipe_in hj z]
    · rw [List.getElem?_eq_none (by rw [wipe_length]; omega), List.getElem?_eq_none (by rw [wipe_length]; omega)]
  · rw [wipe_at hj, wipe_at hj, h j hj]
theorem wipe_wipe (σ : St) (vs : List Nat) : L2.wipe (L2.wipe σ vs) vs = L2.wipe σ vs := wipe_eq (wipe_length _ _) fun j hj => wipe_at hj
theorem Wd.wipe {c : LC} {P H : Hp} {S T : FP} {σ : St} {ρ : List D} (w : Wd c E P S T σ H ρ) (vs : List Nat) (hk : ∀ j ∈ vs, E.kp[j]? ≠ some true) : ∃ S', Wd c E P S' T (L2.wipe σ vs) H (goneAt ρ vs) := by
  obtain ⟨S', h1, h2⟩ := RepE.wipe w.env vs
  refine ⟨S', w.shrink h1 (fun a => by have := h2 a; omega) (fun _ => Nat.le_refl _) fun i v h3 h4 => ?_⟩
  rw [wipe_at fun z => hk i z h3]
  exact w.kp i v h3 h4
def compL (f : TgM) (mc : BM) (me : RM) (ρ0 : List D) : List D → Option (List D)
  | [] => some []
  | d :: ds => (f d ρ0).bind fun ρ1 => (mc ρ1).bind fun k => if k = true then (me ρ1).bind fun y => if frz y = true then (compL f mc me ρ0 ds).map fun ys => y :: ys else none else compL f mc me ρ0 ds
def compM (vs : List Nat) (f : TgM) (mc : BM) (me : RM) (ms : AM) : RM := fun ρ => (ms ρ).bind fun ds => if ds.length ≤ LIM then (compL f mc me (goneAt ρ vs) ds).map (.lst true) else none
def yesB : BM := fun _ => some true
theorem compL_len {f : TgM} {mc : BM} {me : RM} {ρ0 : List D} : ∀ {ds ys : List D}, compL f mc me ρ0 ds = some ys → ys.length ≤ ds.length
  | [], ys, h => by cases h; exact Nat.le_refl _
  | d :: ds, ys, h => by
    unfold compL at h
    cases e1 : f d ρ0 with
    | none => rw [e1] at h; cases h
    | some ρ1 =>
      cases e2 : mc ρ1 with
      | none => rw [e1, Option.bind_some, e2] at h; cases h
      | some k =>
        rw [e1, Option.bind_some, e2, Option.bind_some] at h
        split at h
        · cases e3 : me ρ1 with
          | none => rw [e3] at h; cases h
          | some y =>
            rw [e3, Option.bind_some] at h
            split at h
            · cases e4 : compL f mc me ρ0 ds with
              | none => rw [e4] at h; cases h
              | some zs => rw [e4] at h; cases h; have := compL_len e4; simp; omega
            · cases h
        · have := compL_len h; simp; omega
theorem compL_turn {f : TgM} {mc : BM} {me : RM} {ρ0 : List D} : ∀ {ds ys : List D} {i : Nat} {d : D}, compL f mc me ρ0 ds = some ys → ds[i]? = some d → ∃ zs ρ1 k, compL f mc me ρ0 (ds.take i) = some zs ∧ f d ρ0 = some ρ1 ∧ mc ρ1 = some k ∧
    (k = true → ∃ y, me ρ1 = some y ∧ frz y = true ∧ compL f mc me ρ0 (ds.take (i + 1)) = some (zs ++ [y])) ∧ (k = false → compL f mc me ρ0 (ds.take (i + 1)) = some zs)
  | [], ys, i, d, h, e => by simp at e
  | d0 :: ds, ys, i, d, h, e => by
    unfold compL at h
    cases e1 : f d0 ρ0 with
    | none => rw [e1] at h; cases h
    | some ρ1 =>
      cases e2 : mc ρ1 with
      | none => rw [e1, Option.bind_some, e2] at h; cases h
      | some k =>
        rw [e1, Option.bind_some, e2, Option.bind_some] at h
        cases i with
        | zero =>
          simp at e; subst e
          refine ⟨[], ρ1, k, rfl, e1, e2, fun hk => ?_, fun hk => ?_⟩
          · subst hk
            rw [if_pos rfl] at h
            cases e3 : me ρ1 with
            | none => rw [e3] at h; cases h
            | some y =>
              rw [e3, Option.bind_some] at h
              split at h
              · rename_i hf
                exact ⟨y, rfl, hf, by simp [compL, e1, e2, e3, hf]⟩
              · cases h
          · subst hk; simp [compL, e1, e2]
        | succ i =>
          have e' : ds[i]? = some d := by simpa using e
          cases k with
          | true =>
            rw [if_pos rfl] at h
            cases e3 : me ρ1 with
            | none => rw [e3] at h; cases h
            | some y =>
              rw [e3, Option.bind_some] at h
              split at h
              · rename_i hf
                cases e4 : compL f mc me ρ0 ds with
                | none => rw [e4] at h; cases h
                | some ws =>
                  obtain ⟨zs, ρ2, k2, h1, h2, h3, h4, h5⟩ := compL_turn e4 e'
                  refine ⟨y :: zs, ρ2, k2, by simp [compL, e1, e2, e3, hf, h1], h2, h3, fun z => ?_, fun z => ?_⟩
                  · obtain ⟨y2, k3, k4, k5⟩ := h4 z
                    exact ⟨y2, k3, k4, by simp [compL, e1, e2, e3, hf, k5]⟩
                  · simp [compL, e1, e2, e3, hf, h5 z]
              · cases h
          | false =>
            rw [if_neg (by decide)] at h
            obtain ⟨zs, ρ2, k2, h1, h2, h3, h4, h5⟩ := compL_turn h e'
            refine ⟨zs, ρ2, k2, by simp [compL, e1, e2, h1], h2, h3, fun z => ?_, fun z => ?_⟩
            · obtain ⟨y2, k3, k4, k5⟩ := h4 z
              exact ⟨y2, k3, k4, by simp [compL, e1, e2, k5]⟩
            · simp [compL, e1, e2, h5 z]
def tTs (c : LC) (E : En) (mc : BM) : TT := tT c E mc
theorem ts_nil : PTs X [] (tTs ⟨X.K, cl, X.w⟩ E yesB) := ⟨fun pins s σ H Q I ⟨P, S, T, ρ, b, w, hm, q⟩ => by
  cases hm
  exact pts_nil.run pins s σ H Q I (q H P (.refl w.ph))⟩
end
end LI

namespace LI
open PySem L2

inductive Fl where
  | nx | rt (d : D) | bk | ct | ex (n : Nat) (fs : List Str) (es : List D)
def XE1 (c : LC) (W : WX) (n : Nat) (fs : List Str) (vs : List V) (σ' : St) (H' : Hp) : Prop :=
  (fs = [] → W (.ref (c.cl n)) none σ' H') ∧ (fs ≠ [] → ∀ dd, H' dd = none → W (.ref (c.cl n)) (some dd) σ' (upd H' dd (.xd (fs.zip vs))))
abbrev SM := List D → Option (Fl × List D)
def SPost (c : LC) (E : En) (P : Hp) (D : Ends) : Fl → List LI.D → Prop
  | .nx, ρ' => ∀ σ' H' P' S', Wd c E P' S' fz σ' H' ρ' → Ex P P' → D.nx σ' H'
  | .rt d, ρ' => ∀ v σ' H' P' S' U, Wd c E P' S' U σ' H' ρ' → Rep c P' H' d v U → D.rt v H'
  | .bk, ρ' => ∀ σ' H' P' S', Wd c E P' S' fz σ' H' ρ' → Ex P P' → D.bk σ' H'
  | .ct, ρ' => ∀ σ' H' P' S', Wd c E P' S' fz σ' H' ρ' → Ex P P' → D.ct σ' H'
  | .ex n fs es, ρ' => ∀ vs σ' H' P' S' U, Wd c E P' S' U σ' H' ρ' → Ex P P' → RepL c P' H' es vs fz → XE1 c E.xw n fs vs σ' H'
def tS (c : LC) (E : En) (m : SM) : TS := fun D σ H => ∃ P S ρ fl ρ', Wd c E P S fz σ H ρ ∧ m ρ = some (fl, ρ') ∧ SPost c E P D fl ρ'
theorem SPost.mono {c : LC} {E : En} {P P2 : Hp} {D : Ends} {fl : Fl} {ρ' : List LI.D} (h : SPost c E P D fl ρ') (e : Ex P P2) : SPost c E P2 D fl ρ' := by
  cases fl with
  | nx => exact fun σ' H' P' S' w x => h σ' H' P' S' w (e.trans x)
  | rt d => exact h
  | bk => exact fun σ' H' P' S' w x => h σ' H' P' S' w (e.trans x)
  | ct => exact fun σ' H' P' S' w x => h σ' H' P' S' w (e.trans x)
  | ex n fs es => exact fun vs σ' H' P' S' U w x => h vs σ' H' P' S' U w (e.trans x)
section
variable {X : Cx} {cl : Nat → Addr} {E : En} {e a b tg : Expr} {pos : Pos} {m ma mb : SM} {g : GM}
def skipM : SM := fun ρ => some (.nx, ρ)
def seqM (m1 m2 : SM) : SM := fun ρ => (m1 ρ).bind fun r => match r.1 with | .nx => m2 r.2 | _ => some r
theorem s_nil : PSs X [] (tS ⟨X.K, cl, X.w⟩ E skipM) := PSs_imp pss_nil fun D σ H ⟨P, S, ρ, fl, ρ', w, hm, q⟩ => by
  cases hm
  exact q σ H P S w (.refl _)
theorem seq_run {c : LC} {D : Ends} {σ : St} {H : Hp} (h : tS c E (seqM ma mb) D σ H) : tSeq (tS c E ma) (tS c E mb) D σ H := by
  obtain ⟨P, S, ρ, fl, ρ', w, hm, q⟩ := h
  unfold seqM at hm
  cases ea : ma ρ with
  | none => rw [ea] at hm; cases hm
  | some r =>
    obtain ⟨f1, ρ1⟩ := r
    rw [ea, Option.bind_some] at hm
    refine ⟨P, S, ρ, f1, ρ1, w, ea, ?_⟩
    cases f1 with
    | nx => exact fun σ' H' P' S' w' x => ⟨P', S', ρ1, fl, ρ', w', hm, q.mono x⟩
    | rt d => cases hm; exact q
    | bk => cases hm; exact q
    | ct => cases hm; exact q
    | ex n fs es => cases hm; exact q
theorem s_cons {st : Stmt} {rest : List Stmt} (h1 : PS X st (tS ⟨X.K, cl, X.w⟩ E ma)) (h2 : PSs X rest (tS ⟨X.K, cl, X.w⟩ E mb)) : PSs X (st :: rest) (tS ⟨X.K, cl, X.w⟩ E (seqM ma mb)) := PSs_imp (pss_cons h1 h2) fun _ _ _ h => seq_run h
theorem s_one {st : Stmt} (h1 : PS X st (tS ⟨X.K, cl, X.w⟩ E ma)) : PSs X [st] (tS ⟨X.K, cl, X.w⟩ E ma) := pss_one h1
theorem RepE.forget {c : LC} {P H : Hp} : ∀ {ρ : List D} {σ : St} {S : FP} (i : Nat), RepE c P H ρ σ S → ∃ S', RepE c P H (ρ.set i .gone) σ S' ∧ ∀ a, S' a ≤ S a
  | [], [], S, i, h => ⟨S, h, fun a => Nat.le_refl _⟩
  | d0 :: ρ, v0 :: σ, S, 0, ⟨T, T2, h1, h2, f⟩ => ⟨fa fz T2, ⟨fz, T2, by cases v0 <;> first | exact ⟨rfl, rfl⟩ | exact rfl, h2, rfl⟩, fun a => by rw [f]; simp only [fa, fz]; omega⟩
  | d0 :: ρ, v0 :: σ, S, i + 1, ⟨T, T2, h1, h2, f⟩ => by
    obtain ⟨S', k1, k2⟩ := RepE.forget i h2
    exact ⟨fa T S', ⟨T, S', h1, k1, rfl⟩, fun a => by have := k2 a; rw [f]; simp only [fa]; omega⟩
  | [], _ :: _, _, _, h => h.elim
  | _ :: _, [], _, _, h => h.elim
theorem Wd.forget {c : LC} {P H : Hp} {S T : FP} {σ : St} {ρ : List D} (w : Wd c E P S T σ H ρ) : ∀ vs : List Nat, ∃ S', Wd c E P S' T σ H (goneAt ρ vs)
  | [] => ⟨S, w⟩
  | v :: vs => by
    obtain ⟨S1, w1⟩ := Wd.forget w vs
    obtain ⟨S2, h1, h2⟩ := RepE.forget v w1.env
    exact ⟨S2, w1.shrink h1 (fun a => by have := h2 a; omega) (fun _ => Nat.le_refl _) w1.kp⟩
def killM (vs : List Nat) (m : SM) : SM := fun ρ => m (goneAt ρ vs)
theorem s_kill (vs : List Nat) {sts : List Stmt} (h : PSs X sts (tS ⟨X.K, cl, X.w⟩ E m)) : PSs X sts (tS ⟨X.K, cl, X.w⟩ E (killM vs m)) := PSs_imp h fun D σ H ⟨P, S, ρ, fl, ρ', w, hm, q⟩ => by
  obtain ⟨S', w'⟩ := w.forget vs
  exact ⟨P, S', _, fl, ρ', w', hm, q⟩

theorem g_run {c : LC} {σ : St} {H : Hp} {Q : VK} {P : Hp} {S : FP} {ρ ρ1 : List D} {d : D} (w : Wd c E P S fz σ H ρ) (hg : g ρ = some (d, ρ1)) (q : ∀ v H' P' S' U, Wd c E P' S' U σ H' ρ1 → Ex P P' → Rep c P' H' d v U → Q v H') : tG c E g σ H Q :=
  ⟨P, S, fz, ρ, d, ρ1, w, hg, fun v H' P' S' U w' e r _ => q v H' P' S' U (by rw [fz_fa] at w'; exact w') e r⟩
def asgM (f : TgM) (g : GM) : SM := fun ρ => (g ρ).bind fun r => (f r.1 r.2).map fun ρ' => (.nx, ρ')
theorem asg_run {c : LC} {tl : List Nat} {f : TgM} {D : Ends} {σ : St} {H : Hp} (h : tS c E (asgM f g) D σ H) : tAsg (tG c E g) (tPG c E tl f) D σ H := by
  obtain ⟨P, S, ρ, fl, ρ', w, hm, q⟩ := h
  unfold asgM at hm
  cases eg : g ρ with
  | none => rw [eg] at hm; cases hm
  | some r =>
    obtain ⟨d, ρ1⟩ := r
    rw [eg, Option.bind_some] at hm
    cases ef : f d ρ1 with
    | none => rw [ef] at hm; cases hm
    | some ρ2 =>
      rw [ef] at hm
      cases hm
      exact g_run w eg fun v H' P' S' U w' e r => ⟨P', S', fz, U, ρ1, d, ρ', by rw [fz_fa]; exact w', r, ef, fun σ2 S2 w2 _ _ => q σ2 H' P' S2 w2 e⟩
theorem s_asg {tl : List Nat} {f : TgM} (he : PE X e (tG ⟨X.K, cl, X.w⟩ E g)) (hg : PG X tg (tPG ⟨X.K, cl, X.w⟩ E tl f)) (hs : swapsWithSole [tg] e pos.line X.env = pure false := by rfl) (hw : swappedStores [tg] e X.env = pure none := by rfl)
    (h1 : (assignEach [tg] X.env).map (·.2) = [assign tg X.env] := by rfl) : PS X (.Assign [tg] e pos) (tS ⟨X.K, cl, X.w⟩ E (asgM f g)) := PS_imp (ps_asg he hg hs hw h1) fun _ _ _ h => asg_run h
theorem s_set (i : Nat) {x : Str} {pos' : Pos} (hN : X.N.Nodup) (hi : X.N[i]? = some x) (hx : Loc X.env.scope x) (hk : E.kp[i]? ≠ some true) (he : PE X e (tG ⟨X.K, cl, X.w⟩ E g)) (hs : swapsWith e (some (.Name x pos')) pos.line X.env = pure false := by rfl) (hf : X.fn x = true ∨ X.env.scope.names.lookup x = some .local := by first | exact .inl rfl | exact .inr rfl | assumption) :
    PS X (.Assign [.Name x pos'] e pos) (tS ⟨X.K, cl, X.w⟩ E (asgM (nameT i) g)) := PS_imp (ps_set hN hi hx he hs hf) fun D σ H ⟨P, S, ρ, fl, ρ', w, hm, q⟩ => by
  unfold asgM at hm
  cases eg : g ρ with
  | none => rw [eg] at hm; cases hm
  | some r =>
    obtain ⟨d, ρ1⟩ := r
    rw [eg] at hm
    cases hm
    exact g_run w eg fun v H' P' S' U w' e r => by
      obtain ⟨S2, w2⟩ := (show Wd ⟨X.K, cl, X.w⟩ E P' S' (fa fz U) σ H' ρ1 by rw [fz_fa]; exact w').store r i hk
      exact q _ H' P' S2 w2 e
def exprM (g : GM) : SM := fun ρ => (g ρ).map fun r => (.nx, r.2)
theorem s_expr (he : PE X e (tG ⟨X.K, cl, X.w⟩ E g)) (hs : swapsWith e none pos.line X.env = pure false := by rfl) : PS X (.Expr e pos) (tS ⟨X.K, cl, X.w⟩ E (exprM g)) := PS_imp (ps_expr he hs) fun D σ H ⟨P, S, ρ, fl, ρ', w, hm, q⟩ => by
  unfold exprM at hm
  cases eg : g ρ with
  | none => rw [eg] at hm; cases hm
  | some r =>
    rw [eg] at hm
    cases hm
    exact g_run w eg fun v H' P' S' U w' e r => q σ H' P' S' (Wd.drop (U := U) (by rw [fz_fa]; exact w')) e
def retM (g : GM) : SM := fun ρ => (g ρ).map fun r => (.rt r.1, r.2)
theorem s_ret (he : PE X e (tG ⟨X.K, cl, X.w⟩ E g)) : PS X (.Return (some e) pos) (tS ⟨X.K, cl, X.w⟩ E (retM g)) := PS_imp (ps_ret he) fun D σ H ⟨P, S, ρ, fl, ρ', w, hm, q⟩ => by
  unfold retM at hm
  cases eg : g ρ with
  | none => rw [eg] at hm; cases hm
  | some r =>
    rw [eg] at hm
    cases hm
    exact g_run w eg fun v H' P' S' U w' e r => q v σ H' P' S' U w' r
def noM' : SM := fun _ => none
def ifGM (mc : BGM) (ma mb : SM) : SM := fun ρ => (mc ρ).bind fun r => if r.1 = true then ma r.2 else mb r.2
theorem s_ifG {mc : BGM} {sa sb : List Stmt} (hc : PT X e (tTG ⟨X.K, cl, X.w⟩ E mc)) (ha : PSs X sa (tS ⟨X.K, cl, X.w⟩ E ma)) (hb : PSs X sb (tS ⟨X.K, cl, X.w⟩ E mb)) : PS X (.If e sa sb pos) (tS ⟨X.K, cl, X.w⟩ E (ifGM mc ma mb)) := PS_imp (ps_if hc ha hb) fun D σ H ⟨P, S, ρ, fl, ρ', w, hm, q⟩ => by
  unfold ifGM at hm
  cases ec : mc ρ with
  | none => rw [ec] at hm; cases hm
  | some r =>
    obtain ⟨k, ρ1⟩ := r
    rw [ec, Option.bind_some] at hm
    refine ⟨P, S, fz, ρ, k, ρ1, w, ec, fun H' P' S' w' x _ => ?_⟩
    cases k with
    | true => exact iteT ⟨P', S', ρ1, fl, ρ', w', hm, q.mono x⟩
    | false => exact iteF ⟨P', S', ρ1, fl, ρ', w', hm, q.mono x⟩
def ifM (mc : BM) (ma mb : SM) : SM := fun ρ => (mc ρ).bind fun k => if k = true then ma ρ else mb ρ
theorem s_if {mc : BM} {sa sb : List Stmt} (hc : PT X e (tT ⟨X.K, cl, X.w⟩ E mc)) (ha : PSs X sa (tS ⟨X.K, cl, X.w⟩ E ma)) (hb : PSs X sb (tS ⟨X.K, cl, X.w⟩ E mb)) : PS X (.If e sa sb pos) (tS ⟨X.K, cl, X.w⟩ E (ifM mc ma mb)) := PS_imp (ps_if hc ha hb) fun D σ H ⟨P, S, ρ, fl, ρ', w, hm, q⟩ => by
  unfold ifM at hm
  cases ec : mc ρ with
  | none => rw [ec] at hm; cases hm
  | some k =>
    rw [ec, Option.bind_some] at hm
    refine ⟨P, S, fz, ρ, k, w, ec, fun H' P' g => ?_⟩
    cases k with
    | true => exact iteT ⟨P', S, ρ, fl, ρ', w.grow g, hm, q.mono g.p⟩
    | false => exact iteF ⟨P', S, ρ, fl, ρ', w.grow g, hm, q.mono g.p⟩

def forL (f : TgM) (body : SM) (kl : List Nat) : List D → List D → Option (Fl × List D)
  | [], ρ => some (.nx, ρ)
  | d :: ds, ρ => (f d ρ).bind fun ρ1 => (body ρ1).bind fun r => match r.1 with
    | .nx => forL f body kl ds (goneAt r.2 kl)
    | .ct => forL f body kl ds (goneAt r.2 kl)
    | .bk => some (.nx, goneAt r.2 kl)
    | .rt d => some (.rt d, r.2)
    | .ex n fs es => some (.ex n fs es, r.2)
def forM (f : TgM) (body : SM) (kl : List Nat) (ms : AM) : SM := fun ρ => (ms ρ).bind fun ds => forL f body kl ds ρ
theorem for_run {c : LC} {tl kl : List Nat} {f : TgM} {body : SM} {ms : AM} {D : Ends} {σ : St} {H : Hp} (h : tS c E (forM f body kl ms) D σ H) : tFor (tI c E ms) (tPG c E tl f) (tS c E body) D σ H := by
  obtain ⟨P, S, ρ, fl, ρ', w, hm, q⟩ := h
  unfold forM at hm
  cases es : ms ρ with
  | none => rw [es] at hm; cases hm
  | some ds =>
    rw [es, Option.bind_some] at hm
    refine ⟨P, S, fz, ρ, ds, w, es, fun J H1 P1 g1 io => ?_⟩
    obtain ⟨G, Y, wk, hG, hY⟩ := io
    refine for_it wk (fun i σi Hi => ∃ P2 S2 ρi, Wd c E P2 S2 fz σi Hi ρi ∧ Ex P1 P2 ∧ forL f body kl (ds.drop i) ρi = some (fl, ρ')) ?_ ?_ ?_ ?_
    · exact ⟨P1, S, ρ, w.grow g1, .refl _, hm⟩
    · rintro i σi Hi hi ⟨P2, S2, ρi, w2, e2, _⟩
      exact hG P2 Hi e2 w2.ph
    · rintro i x σi Hi H3 hi ⟨P2, S2, ρi, w2, e2, hf⟩ y
      obtain ⟨P3, d, g3, hd, rd⟩ := hY i P2 Hi x H3 e2 w2.ph hi y
      have hdrop : ds.drop i = d :: ds.drop (i + 1) := by
        rw [List.drop_eq_getElem_cons hi]
        congr 1
        rw [List.getElem?_eq_getElem hi] at hd
        exact Option.some.inj hd
      rw [hdrop] at hf
      unfold forL at hf
      cases ef : f d ρi with
      | none => rw [ef] at hf; cases hf
      | some ρ1 =>
        cases eb : body ρ1 with
        | none => rw [ef, Option.bind_some, eb] at hf; cases hf
        | some r =>
          obtain ⟨f1, ρ2⟩ := r
          rw [ef, Option.bind_some, eb, Option.bind_some] at hf
          have w3 : Wd c E P3 S2 (fa fz fz) σi H3 ρi := by rw [fa_fz]; exact w2.grow g3
          refine ⟨P3, S2, fz, fz, ρi, d, ρ1, w3, rd, ef, fun σ4 S4 w4 _ _ => ⟨P3, S4, ρ1, f1, ρ2, w4, eb, ?_⟩⟩
          cases f1 with
          | nx =>
            intro σ' H' P' S' w' x'
            obtain ⟨S5, w5⟩ := w'.forget kl
            exact ⟨P', S5, _, w5, (e2.trans g3.p).trans x', hf⟩
          | ct =>
            intro σ' H' P' S' w' x'
            obtain ⟨S5, w5⟩ := w'.forget kl
            exact ⟨P', S5, _, w5, (e2.trans g3.p).trans x', hf⟩
          | bk =>
            cases hf
            intro σ' H' P' S' w' x'
            obtain ⟨S5, w5⟩ := w'.forget kl
            exact q σ' H' P' S5 w5 (((g1.p.trans e2).trans g3.p).trans x')
          | rt d' =>
            cases hf
            exact q
          | ex n fs es =>
            cases hf
            exact fun vs σ' H' P' S' U w' x' => q vs σ' H' P' S' U w' (((g1.p.trans e2).trans g3.p).trans x')
    · rintro σi Hi ⟨P2, S2, ρi, w2, e2, hf⟩
      rw [List.drop_length] at hf
      cases hf
      exact q σi Hi P2 S2 w2 (g1.p.trans e2)
theorem s_for {iter : Expr} {sb : List Stmt} {tl : List Nat} (kl : List Nat) {f : TgM} {body : SM} {ms : AM} (hp : PassesOwn (model X.prog X.w) X.A X.env X.xe) (hc : X.calm = true) (hi : PI X tg iter (tI ⟨X.K, cl, X.w⟩ E ms)) (hg : PG X tg (tPG ⟨X.K, cl, X.w⟩ E tl f)) (hb : PSs X sb (tS ⟨X.K, cl, X.w⟩ E body))
    (hs : ∀ x, foldedSetIterable iter X.env x = pure x := by intro _; rfl) : PS X (.For tg iter sb [] pos) (tS ⟨X.K, cl, X.w⟩ E (forM f body kl ms)) := PS_imp (ps_for hp hc hi hg hb hs) fun _ _ _ h => for_run h
end
end LI

namespace LI
open PySem L2 PyProof.Rows

structure Stp (P0 : Hp) (S0 : FP) (H0 P : Hp) (T : FP) (H : Hp) : Prop where
  p0 : Ex P0 P
  ph : Ex P H
  fr : ∀ a o, S0 a = 0 → H0 a = some o → H a = some o
  np : ∀ a, P a ≠ none → P0 a ≠ none ∨ 0 < S0 a ∨ H0 a = none
  ns : ∀ a, 0 < T a → 0 < S0 a ∨ H0 a = none
  le : ∀ a, T a ≤ 1
  out : ∀ a, 0 < T a → P a = none
abbrev FM := List D → Option (D × List D)
def spD (c : LC) (F : FM) : Sp := fun vs H Q _ => ∃ P S ds d ds', RepL c P H ds vs S ∧ Ex P H ∧ (∀ a, S a ≤ 1) ∧ (∀ a, 0 < S a → P a = none) ∧ F ds = some (d, ds') ∧
  ∀ v H' P' U S', Stp P S H P' (fa U S') H' → Rep c P' H' d v U → RepL c P' H' ds' vs S' → Q v H'
def maskL : List Bool → List D → List D
  | [], _ => []
  | _ :: bs, [] => .gone :: maskL bs []
  | b :: bs, d :: ds => (if b = true then d else .gone) :: maskL bs ds
def runM (n : Nat) (kp : List Bool) (m : SM) : FM := fun ds => if ds.length = kp.length then (m (ds ++ List.replicate (n - ds.length) .gone)).bind fun r => match r.1 with
  | .rt d => some (d, maskL kp r.2)
  | .nx => some (.non, maskL kp r.2)
  | _ => none
  else none
theorem repE_none {c : LC} {P H : Hp} : ∀ n : Nat, RepE c P H (List.replicate n .gone) (List.replicate n none) fz
  | 0 => rfl
  | n + 1 => ⟨fz, fz, ⟨rfl, rfl⟩, repE_none n, (fa_fz fz).symm⟩
theorem repE_start {c : LC} {P H : Hp} (n : Nat) : ∀ {ds : List D} {vs : List V} {S : FP}, RepL c P H ds vs S → RepE c P H (ds ++ List.replicate n .gone) (vs.map some ++ List.replicate n none) S
  | [], vs, S, r => by rw [r.1, r.2]; exact repE_none n
  | d :: ds, vs, S, ⟨y, ys, T, U, e, r, rs, f⟩ => by rw [e]; exact ⟨T, U, r, repE_start n rs, f⟩
theorem mask_rep {c : LC} {P H : Hp} : ∀ {kp : List Bool} {vs : List V} {ρ : List D} {σ : L2.St} {S : FP}, RepE c P H ρ σ S → kp.length = vs.length → (∀ (i : Nat) (v : V), kp[i]? = some true → vs[i]? = some v → σ[i]? = some (some v)) →
    ∃ S', RepL c P H (maskL kp ρ) vs S' ∧ ∀ a, S' a ≤ S a
  | [], vs, ρ, σ, S, r, h1, h3 => by
    have : vs = [] := List.length_eq_zero_iff.mp h1.symm
    subst this
    exact ⟨fz, ⟨rfl, rfl⟩, fun a => Nat.zero_le _⟩
  | b :: kp, [], ρ, σ, S, r, h1, h3 => by simp at h1
  | b :: kp, v :: vs, [], [], S, r, h1, h3 => by
    obtain ⟨S', k1, k2⟩ := mask_rep (kp := kp) (vs := vs) (ρ := []) (σ := []) r (by simpa using h1) fun i u z1 z2 => by
      have := h3 (i + 1) u (by simpa using z1) (by simpa using z2)
      simpa using this
    exact ⟨fa fz S', ⟨v, vs, fz, S', rfl, rfl, k1, rfl⟩, fun a => by have := k2 a; simp only [fa, fz]; omega⟩
  | b :: kp, v :: vs, [], _ :: _, S, r, h1, h3 => r.elim
  | b :: kp, v :: vs, d :: ρ, [], S, r, h1, h3 => r.elim
  | b :: kp, v :: vs, d :: ρ, ov :: σ, S, ⟨T, U, r, rs, f⟩, h1, h3 => by
    obtain ⟨S', k1, k2⟩ := mask_rep (kp := kp) (vs := vs) rs (by simpa using h1) fun i u z1 z2 => by
      have := h3 (i + 1) u (by simpa using z1) (by simpa using z2)
      simpa using this
    cases b with
    | false => exact ⟨fa fz S', ⟨v, vs, fz, S', rfl, rfl, k1, rfl⟩, fun a => by have := k2 a; rw [f]; simp only [fa, fz]; omega⟩
    | true =>
      have e := h3 0 v rfl rfl
      simp at e
      subst e
      exact ⟨fa T S', ⟨v, vs, T, S', rfl, r, k1, rfl⟩, fun a => by have := k2 a; rw [f]; simp only [fa]; omega⟩
section
variable {P : Program} {w : World} {K : PySem.W.Frag} {mg : Str → Option Value} {base : Heap} {cl : Nat → Addr}
theorem ok_def {x qual : Str} {st : Stmt} {f : Addr} {fd : FuncData} {N ps : List Str} {k : Nat} {kp : List Bool} {m : SM} (F : Fun K x qual st f fd) (S : FnScope N ps (defScope st)) (hk : kp.length = ps.length)
    (hbody : ∀ (cdv : Value) (A : Around) (outer : List Env) (s : Shared) (H : Hp) (E : XK) (e : En), e.kp = kp → Room k (A.deeper (envOfC qual (defScope st) s.heap.objs.size f cdv)) →
      PSs (cxOf CX0 P w K mg base N qual (defScope st) f cdv A outer s H E).nox (defBody st) (tS ⟨K, cl, w⟩ e m)) : FnOk P w K mg base CX0 (k + 1) f fd ps (spD ⟨K, cl, w⟩ (runM N.length kp m)) := by
  refine F.ok S (fun vs H Q E h => ?_) (fun cdv A outer s H vs Q E hr h => ?_)
  · obtain ⟨Pp, Sp, ds, d, ds', r, _, _, _, hm, _⟩ := h
    unfold runM at hm
    split at hm
    · rename_i hl
      rw [← r.length, hl, hk]
    · cases hm
  · obtain ⟨Pp, Sp, ds, d, ds', r, e1, e2, e3, hm, q⟩ := h
    unfold runM at hm
    split at hm
    · rename_i hl
      have hlv : vs.length = kp.length := by rw [← r.length, hl]
      have hvs : ∀ i : Nat, kp[i]? = some true → ∃ v, vs[i]? = some v := fun i hi => by
        have hi' : i < kp.length := (List.getElem?_eq_some_iff.mp hi).1
        exact ⟨_, List.getElem?_eq_getElem (by omega)⟩
      refine ⟨_, hbody cdv A outer s H E ⟨Pp, H, Sp, kp, vs, hvs, fun _ _ _ _ => False⟩ rfl hr, ?_⟩
      cases em : m (ds ++ List.replicate (N.length - ds.length) .gone) with
      | none => rw [em] at hm; cases hm
      | some rr =>
        obtain ⟨fl, ρ'⟩ := rr
        rw [em, Option.bind_some] at hm
        have w0 : Wd ⟨K, cl, w⟩ ⟨Pp, H, Sp, kp, vs, hvs, fun _ _ _ _ => False⟩ Pp Sp fz (L2.start N vs) H (ds ++ List.replicate (N.length - ds.length) .gone) := by
          refine ⟨?_, fun a => by have := e2 a; simp only [fz]; omega, fun a h => e3 a (by simpa [fz] using h), fun a h => by simp [fz] at h, e1, .refl _, fun _ _ _ h => h, fun a h => .inl h, fun a h => .inl (by simpa [fz] using h), fun i v h1 h2 => ?_⟩
          · unfold L2.start
            rw [r.length]
            exact repE_start _ r
          · unfold L2.start
            have h2 : vs[i]? = some v := h2
            rw [List.getElem?_append_left (by rw [List.length_map]; exact (List.getElem?_eq_some_iff.mp h2).1), List.getElem?_map, h2]
            rfl
        have fin : ∀ (v : V) (σ' : L2.St) (H' P' : Hp) (S' U : FP) (d1 : D), Wd ⟨K, cl, w⟩ ⟨Pp, H, Sp, kp, vs, hvs, fun _ _ _ _ => False⟩ P' S' U σ' H' ρ' → Rep ⟨K, cl, w⟩ P' H' d1 v U → some (d1, maskL kp ρ') = some (d, ds') → Q v H' := by
          intro v σ' H' P' S' U d1 w' rd hs
          cases hs
          obtain ⟨S2, k1, k2⟩ := mask_rep (kp := kp) (vs := vs) w'.env hlv.symm w'.kp
          exact q v H' P' U S2 ⟨w'.p0, w'.ph, w'.fr, w'.np, fun a h => w'.ns a (by have := k2 a; simp only [fa] at h; omega), fun a => by have := k2 a; have := w'.le a; simp only [fa]; omega, fun a h => w'.out a (by have := k2 a; simp only [fa] at h; omega)⟩ rd k1
        refine ⟨Pp, Sp, _, fl, ρ', w0, em, ?_⟩
        cases fl with
        | nx => exact fun σ' H' P' S' w' _ => fin .non σ' H' P' S' fz .non w' ⟨rfl, rfl⟩ hm
        | rt d1 => exact fun v σ' H' P' S' U w' r => fin v σ' H' P' S' U d1 w' r hm
        | bk => cases hm
        | ct => cases hm
        | ex n fs es => cases hm
    · cases hm
end
end LI

namespace LI
open PySem L2

def isFlat : D → Bool
  | .non => true | .bl _ => true | .int _ => true | .str _ => true | _ => false
theorem flat_any {c : LC} {P H P' H' : Hp} : ∀ {d : D} {v : V} {U : FP}, isFlat d = true → Rep c P H d v U → Rep c P' H' d v fz
  | .non, v, U, _, r => ⟨r.1, rfl⟩
  | .bl _, v, U, _, r => ⟨r.1, rfl⟩
  | .int _, v, U, _, r => ⟨r.1, rfl⟩
  | .str _, v, U, _, r => ⟨r.1, rfl⟩
def callM (F : FM) (ms : AM) : RM := fun ρ => (ms ρ).bind fun ds => (F (iceL ds)).bind fun r => if frzL ds = true ∨ noIce r.1 = true then some r.1 else none
def coldP (U : FP) (P H : Hp) : Hp := fun a => if 0 < U a then H a else P a
theorem coldP_p {U : FP} {P H : Hp} (e : Ex P H) : Ex P (coldP U P H) := fun a o h => by
  unfold coldP
  split
  · exact e a o h
  · exact h
theorem coldP_h {U : FP} {P H : Hp} (e : Ex P H) : Ex (coldP U P H) H := fun a o h => by
  unfold coldP at h
  split at h
  · exact h
  · exact e a o h
theorem coldP_fz {P H : Hp} : coldP fz P H = P := by funext a; simp [coldP, fz]
theorem spD_view {c : LC} {F : FM} {P H : Hp} {ds : List D} {vs : List V} {U : FP} {d : D} {ds' : List D} {Q : VK} {E : XK} (e : Ex P H) (r : RepL c P H ds vs U) (hf : F (iceL ds) = some (d, ds')) (hz : frzL ds = true ∨ noIce d = true) (q : FQ c P H d Q) : spD c F vs H Q E := by
  refine ⟨coldP U P H, fz, iceL ds, d, ds', RepL.ice (coldP_p e) ds vs U (fun a o h1 h2 => by unfold coldP; rw [if_pos h1]; exact h2) r, coldP_h e, fun _ => Nat.zero_le _, fun a h => by simp [fz] at h, hf, fun v H' P' U2 S' st rd rs => ?_⟩
  have hH : Ex H H' := fun a o h => st.fr a o rfl h
  rcases hz with hz | hz
  · have := RepL.frz0 ds vs U hz r
    subst this
    rw [coldP_fz] at st
    refine q v H' P' U2 ⟨st.p0, hH, st.ph, fun a h => by rcases st.np a h with z | z | z <;> first | exact .inl z | (simp [fz] at z; done) | exact .inr z⟩ rd (fun a => by have := st.le a; simp only [fa] at this; omega) fun a h => ?_
    refine ⟨?_, st.out a (by simp only [fa]; omega)⟩
    rcases st.ns a (by simp only [fa]; omega) with z | z
    · simp [fz] at z
    · exact z
  · have hU : ∀ a, 0 < U a → ∃ o, H a = some o ∧ notTup o = true := RepL.nt ds vs U r
    have hP : ∀ a o, P a = some o → (if 0 < U a then P a else P' a) = some o := fun a o h => by
      split
      · exact h
      · rename_i z
        exact st.p0 a o (by unfold coldP; rw [if_neg z]; exact h)
    refine q v H' (fun a => if 0 < U a then P a else P' a) U2 ⟨hP, hH, fun a o h => ?_, fun a h => ?_⟩ (Rep.thaw (fun b o h1 h2 => ?_) d v U2 hz rd) (fun a => by have := st.le a; simp only [fa] at this; omega) fun a h => ?_
    · skip
      split at h
      · exact hH a o (e a o h)
      · exact st.ph a o h
    · skip
      split at h
      · exact .inl h
      · rename_i z
        rcases st.np a h with y | y | y
        · unfold coldP at y; rw [if_neg z] at y; exact .inl y
        · simp [fz] at y
        · exact .inr y
    · skip
      rw [if_neg]
      · exact h1
      · intro z
        obtain ⟨o2, k1, k2⟩ := hU b z
        have := hH b o2 k1
        rw [st.ph b o h1] at this
        cases this
        rw [h2] at k2; cases k2
    · have hn : H a = none := by
        rcases st.ns a (by simp only [fa]; omega) with z | z
        · simp [fz] at z
        · exact z
      refine ⟨hn, ?_⟩
      skip
      rw [if_neg]
      · exact st.out a (by simp only [fa]; omega)
      · intro z
        obtain ⟨o2, k1, _⟩ := hU a z
        rw [hn] at k1; cases k1
section
variable {X : Cx} {cl : Nat → Addr} {E : En} {e a b o : Expr} {es : List Expr} {pos p apos : Pos} {m : RM} {ms : AM} {CX : CXT} {k : Nat} {f C : Addr} {fd : FuncData} {ps : List Str} {F : FM} {XE : XK} {x nm : Str}
theorem call_split {ρ : List D} {d : D} (h : callM F ms ρ = some d) : ∃ ds ds', ms ρ = some ds ∧ F (iceL ds) = some (d, ds') ∧ (frzL ds = true ∨ noIce d = true) := by
  unfold callM at h
  cases e1 : ms ρ with
  | none => rw [e1] at h; cases h
  | some ds =>
    rw [e1, Option.bind_some] at h
    cases e2 : F (iceL ds) with
    | none => rw [e2] at h; cases h
    | some r =>
      rw [e2, Option.bind_some] at h
      split at h
      · rename_i hz
        cases h
        exact ⟨ds, r.2, rfl, e2, hz⟩
      · cases h
theorem f_call (G : FnOk X.prog X.w X.K X.mg X.base CX k f fd ps (spD ⟨X.K, cl, X.w⟩ F)) (hr : Room k X.A) (hg : Gl X x) (hm : X.mg x = some (.ref f)) (hk : PySem.W.keepIn X.K (.ref f) = true) (hb : Binds X.K fd ps []) (hx : Passes CX X XE)
    (ha : PA X (e :: es) (tAR ⟨X.K, cl, X.w⟩ E ms)) (hdb : (x == ("__debug__" : Str)) = false := by decide) (he : starEach (e :: es) X.env = (false, eval e X.env) :: starEach es X.env := by rfl) (hpl : (backTo pos (starEach es X.env)).any (·.1) = false := by rfl) :
    PE X (.Call (.Name x p) (e :: es) [] pos) (tF ⟨X.K, cl, X.w⟩ E (callM F ms)) := PE_imp (pe_call G hr hg hm hk hb .nil hx ha hdb he hpl) fun σ H Q ⟨P, S, T, ρ, d, w, h, q⟩ => by
  obtain ⟨ds, ds', e1, e2, hz⟩ := call_split h
  refine ⟨P, S, T, ρ, ds, w, e1, fun vs H1 P1 U1 g1 r1 => ?_⟩
  show spD ⟨X.K, cl, X.w⟩ F (vs ++ []) H1 Q XE
  rw [List.append_nil]
  exact spD_view g1.ph r1 e2 hz (q.grow g1)
def mkM (n : Nat) (F : FM) (ms : AM) : RM := fun ρ => (ms ρ).bind fun ds => if frzL ds = true then (F (.obj true n [] [] :: ds)).bind fun r => match r with | (.non, self :: _) => some self | _ => none else none
theorem mk_run {c : LC} {n : Nat} {P H : Hp} {ds : List D} {vs : List V} {self : D} {ds' : List D} {Q : VK} {XE : XK} (e : Ex P H) (r : RepL c P H ds vs fz) (hf : F (.obj true n [] [] :: ds) = some (.non, self :: ds')) (q : FQ c P H self Q) :
    ∀ x dx, H x = none → H dx = none → dx ≠ x → spD c F (.ref x :: (vs ++ [])) (upd (upd H dx (.own x)) x (.ins (c.cl n) dx [])) (fun v H2 => v = .non ∧ Q (.ref x) H2) XE := by
  intro x dx hx hdx hne
  have ex : Ex H (upd (upd H dx (.own x)) x (.ins (c.cl n) dx [])) := fun a o z => by
    rw [upd_ne (ne_of_none z hx), upd_ne (ne_of_none z hdx)]; exact z
  have back : ∀ a, upd (upd H dx (.own x)) x (.ins (c.cl n) dx []) a = none → H a = none := fun a z => by
    cases q : H a with
    | none => rfl
    | some o => rw [ex a o q] at z; cases z
  rw [List.append_nil]
  refine ⟨P, fa (one x) fz, .obj true n [] [] :: ds, _, _, ⟨.ref x, vs, one x, fz, rfl, ⟨x, dx, [], fz, rfl, upd_same, rfl, ⟨rfl, rfl⟩, (fa_fz _).symm⟩, repL_h r, rfl⟩, e.trans ex, fun a => by rw [fa_fz]; exact one_le a, fun a z => ?_, hf, fun v H' P' U S' st rd rs => ?_⟩
  · rw [fa_fz] at z; rw [one_pos z]; exact none_of e hx
  · rw [fa_fz] at st
    obtain ⟨y, ys, T1, T2, e1, r1, _, e2⟩ := rs
    cases e1
    have hH : Ex H H' := fun a o z => st.fr a o (by unfold one; rw [if_neg (ne_of_none z hx)]) (ex a o z)
    have old : ∀ a, (0 < one x a ∨ upd (upd H dx (.own x)) x (.ins (c.cl n) dx []) a = none) → H a = none := fun a z => by
      rcases z with z | z
      · rw [one_pos z]; exact hx
      · exact back a z
    refine ⟨rd.1, q (.ref x) H' P' T1 ⟨st.p0, hH, st.ph, fun a z => ?_⟩ r1 (fun a => ?_) fun a z => ⟨old a (st.ns a ?_), st.out a ?_⟩⟩
    · rcases st.np a z with z | z | z
      · exact .inl z
      · exact .inr (old a (.inl z))
      · exact .inr (old a (.inr z))
    · have := st.le a; rw [e2] at this; simp only [fa] at this; omega
    · rw [e2]; simp only [fa]; omega
    · rw [e2]; simp only [fa]; omega
theorem mk_split {n : Nat} {ρ : List D} {d : D} (h : mkM n F ms ρ = some d) : ∃ ds ds', ms ρ = some ds ∧ frzL ds = true ∧ F (.obj true n [] [] :: ds) = some (.non, d :: ds') := by
  unfold mkM at h
  cases e1 : ms ρ with
  | none => rw [e1] at h; cases h
  | some ds =>
    rw [e1, Option.bind_some] at h
    split at h
    · rename_i hz
      cases e2 : F (.obj true n [] [] :: ds) with
      | none => rw [e2] at h; cases h
      | some r =>
        rw [e2, Option.bind_some] at h
        split at h
        · cases h; exact ⟨ds, _, rfl, hz, e2⟩
        · cases h
    · cases h
theorem f_mk (n : Nat) (M : Mk X.K (cl n) f) (G : FnOk X.prog X.w X.K X.mg X.base CX k f fd ps (spD ⟨X.K, cl, X.w⟩ F)) (hr : Room (k + 1) X.A) (hg : Gl X x) (hm : X.mg x = some (.ref (cl n))) (hb : Binds X.K fd ps []) (hx : Passes CX X XE)
    (ha : PA X (e :: es) (tAR ⟨X.K, cl, X.w⟩ E ms)) (hdb : (x == ("__debug__" : Str)) = false := by decide) (he : starEach (e :: es) X.env = (false, eval e X.env) :: starEach es X.env := by rfl) (hpl : (backTo pos (starEach es X.env)).any (·.1) = false := by rfl) :
    PE X (.Call (.Name x p) (e :: es) [] pos) (tF ⟨X.K, cl, X.w⟩ E (mkM n F ms)) := PE_imp (pe_make M G hr hg hm hb .nil hx ha hdb he hpl) fun σ H Q ⟨P, S, T, ρ, d, w, h, q⟩ => by
  obtain ⟨ds, ds', e1, hz, e2⟩ := mk_split h
  refine ⟨P, S, T, ρ, ds, w, e1, fun vs H1 P1 U1 g1 r1 => ?_⟩
  have := RepL.frz0 ds vs U1 hz r1
  subst this
  exact mk_run g1.ph r1 e2 (q.grow g1)
theorem f_mk0 (n : Nat) (M : Mk X.K (cl n) f) (G : FnOk X.prog X.w X.K X.mg X.base CX k f fd ps (spD ⟨X.K, cl, X.w⟩ F)) (hr : Room (k + 1) X.A) (hg : Gl X x) (hm : X.mg x = some (.ref (cl n))) (hb : Binds X.K fd ps []) (hx : Passes CX X XE)
    (hdb : (x == ("__debug__" : Str)) = false := by decide) : PE X (.Call (.Name x p) [] [] pos) (tF ⟨X.K, cl, X.w⟩ E (mkM n F nilM)) := PE_imp (pe_make0 M G hr hg hm hb .nil hx hdb) fun σ H Q ⟨P, S, T, ρ, d, w, h, q⟩ => by
  obtain ⟨ds, ds', e1, hz, e2⟩ := mk_split h
  cases e1
  exact mk_run (c := ⟨X.K, cl, X.w⟩) (ds := []) (vs := []) w.ph (show RepL ⟨X.K, cl, X.w⟩ P H [] [] fz from ⟨rfl, rfl⟩) e2 q
end

structure Lens where
  get : List D → Option D
  put : List D → D → List D
structure Loc (c : LC) (L : Lens) (P H : Hp) (σ : L2.St) (ρ : List D) (S : FP) (v : V) (d : D) (Sd R : FP) : Prop where
  sum : ∀ a, S a = Sd a + R a
  rep : Rep c P H d v Sd
  put : ∀ (P2 H2 : Hp) (d2 : D) (S2 : FP), Ex P P2 → (∀ a o, 0 < R a → H a = some o → H2 a = some o) → Rep c P2 H2 d2 v S2 → RepE c P2 H2 (L.put ρ d2) σ (fa S2 R)
theorem Loc.grow {c : LC} {L : Lens} {P H P' H' : Hp} {σ : L2.St} {ρ : List D} {S : FP} {v : V} {d : D} {Sd R : FP} (l : Loc c L P H σ ρ S v d Sd R) (g : Gr P H P' H') : Loc c L P' H' σ ρ S v d Sd R :=
  ⟨l.sum, l.rep.gr g, fun P2 H2 d2 S2 e k r => l.put P2 H2 d2 S2 (g.p.trans e) (fun a o h1 h2 => k a o h1 (g.h a o h2)) r⟩
def tPl (c : LC) (E : En) (L : Lens) : TE := fun σ H Q => ∃ P S T ρ d, Wd c E P S T σ H ρ ∧ L.get ρ = some d ∧ ∀ v Sd R, Loc c L P H σ ρ S v d Sd R → Q v H
theorem RepE.focus {c : LC} {P H : Hp} : ∀ {ρ : List D} {σ : L2.St} {S : FP} {i : Nat} {d : D}, RepE c P H ρ σ S → ρ[i]? = some d → notGone d = true → ∃ v Sd R, σ[i]? = some (some v) ∧ Rep c P H d v Sd ∧ (∀ a, S a = Sd a + R a) ∧
    ∀ (P2 H2 : Hp) (d2 : D) (S2 : FP), Ex P P2 → (∀ a o, 0 < R a → H a = some o → H2 a = some o) → Rep c P2 H2 d2 v S2 → RepE c P2 H2 (ρ.set i d2) σ (fa S2 R)
  | [], [], _, i, d, _, e, _ => by simp at e
  | d0 :: ρ, v0 :: σ, S, 0, d, ⟨T, U, r, rs, f⟩, e, n => by
    simp at e; subst e
    cases v0 with
    | none => rw [r.1] at n; cases n
    | some v =>
      exact ⟨v, T, U, rfl, r, fun a => by rw [f]; rfl, fun P2 H2 d2 S2 e1 k r2 => ⟨S2, U, r2, rs.mono e1 ρ σ U k, rfl⟩⟩
  | d0 :: ρ, v0 :: σ, S, i + 1, d, ⟨T, U, r, rs, f⟩, e, n => by
    obtain ⟨v, Sd, R, h1, h2, h3, h4⟩ := RepE.focus (i := i) (d := d) rs (by simpa using e) n
    refine ⟨v, Sd, fa T R, by simpa using h1, h2, fun a => by have := h3 a; rw [f]; simp only [fa]; omega, fun P2 H2 d2 S2 e1 k r2 => ?_⟩
    refine ⟨T, fa S2 R, RepO.mono e1 (fun a o z1 z2 => k a o (by simp only [fa]; omega) z2) r, h4 P2 H2 d2 S2 e1 (fun a o z1 z2 => k a o (by simp only [fa]; omega) z2) r2, by funext a; simp only [fa]; omega⟩
  | [], _ :: _, _, _, _, h, _, _ => h.elim
  | _ :: _, [], _, _, _, h, _, _ => h.elim
theorem RepL.focus {c : LC} {P H : Hp} : ∀ {ds : List D} {xs : List V} {S : FP} {i : Nat} {d : D}, RepL c P H ds xs S → ds[i]? = some d → ∃ v Sd R, xs[i]? = some v ∧ Rep c P H d v Sd ∧ (∀ a, S a = Sd a + R a) ∧
    ∀ (P2 H2 : Hp) (d2 : D) (y : V) (S2 : FP), Ex P P2 → (∀ a o, 0 < R a → H a = some o → H2 a = some o) → Rep c P2 H2 d2 y S2 → RepL c P2 H2 (ds.set i d2) (xs.set i y) (fa S2 R)
  | [], xs, S, i, d, h, e => by simp at e
  | d0 :: ds, xs, S, 0, d, ⟨y, ys, T, U, e1, r, rs, f⟩, e => by
    simp at e; subst e
    subst e1
    exact ⟨y, T, U, rfl, r, fun a => by rw [f]; rfl, fun P2 H2 d2 z S2 e1 k r2 => ⟨z, ys, S2, U, rfl, r2, RepL.mono e1 ds ys U k rs, rfl⟩⟩
  | d0 :: ds, xs, S, i + 1, d, ⟨y, ys, T, U, e1, r, rs, f⟩, e => by
    subst e1
    obtain ⟨v, Sd, R, h1, h2, h3, h4⟩ := RepL.focus (i := i) (d := d) rs (by simpa using e)
    refine ⟨v, Sd, fa T R, by simpa using h1, h2, fun a => by have := h3 a; rw [f]; simp only [fa]; omega, fun P2 H2 d2 z S2 e1 k r2 => ?_⟩
    refine ⟨y, ys.set i z, T, fa S2 R, rfl, Rep.mono e1 d0 y T (fun a o z1 z2 => k a o (by simp only [fa]; omega) z2) r, h4 P2 H2 d2 z S2 e1 (fun a o z1 z2 => k a o (by simp only [fa]; omega) z2) r2, by funext a; simp only [fa]; omega⟩
def vL (i : Nat) : Lens := ⟨fun ρ => (ρ[i]?).bind fun d => if notGone d = true then some d else none, fun ρ d => ρ.set i d⟩
theorem vL_get {i : Nat} {ρ : List D} {d : D} (h : (vL i).get ρ = some d) : ρ[i]? = some d ∧ notGone d = true := by
  unfold vL at h
  cases e : ρ[i]? with
  | none => simp [e] at h
  | some d1 =>
    simp only [e, Option.bind_some] at h
    split at h
    · rename_i hn; cases h; exact ⟨rfl, hn⟩
    · cases h
def fIx (f : Str) : List Str → Option Nat
  | [] => none
  | g :: gs => if f = g then some 0 else (fIx f gs).map (· + 1)
def fldL (n : Nat) (f : Str) (L : Lens) : Lens := ⟨fun ρ => (L.get ρ).bind fun d => match d with
    | .obj _ k fs ds => if k = n then (fIx f fs).bind fun j => (ds[j]?).bind fun d => if notGone d = true then some d else none else none
    | _ => none,
  fun ρ d2 => match L.get ρ with
    | some (.obj o k fs ds) => match fIx f fs with
      | some j => L.put ρ (.obj o k fs (ds.set j d2))
      | none => ρ
    | _ => ρ⟩
theorem fIx_lookup {f : Str} : ∀ {fs : List Str} {xs : List V} {j : Nat}, fIx f fs = some j → fs.length = xs.length → (fs.zip xs).lookup f = xs[j]?
  | [], xs, j, h, n => by cases h
  | g :: gs, [], j, h, n => by simp at n
  | g :: gs, x :: xs, j, h, n => by
    unfold fIx at h
    by_cases e : f = g
    · rw [if_pos e] at h; cases h
      have : (f == g) = true := by rw [e]; exact beq_self_eq_true _
      simp [List.lookup, this]
    · rw [if_neg e] at h
      cases z : fIx f gs with
      | none => rw [z] at h; cases h
      | some j' =>
        rw [z] at h; cases h
        have : (f == g) = false := beq_eq_false_iff_ne.mpr e
        simp [List.lookup, this, fIx_lookup z (by simpa using n)]
theorem obj_heap {c : LC} {P H : Hp} (e : Ex P H) {o : Bool} {k : Nat} {fs : List Str} {ds : List D} {v : V} {U : FP} (r : Rep c P H (.obj o k fs ds) v U) : ∃ a dx xs T Z, v = .ref a ∧ H a = some (.ins (c.cl k) dx (fs.zip xs)) ∧ fs.length = xs.length ∧ RepL c P H ds xs T ∧ (∀ b, U b = Z b + T b) ∧
    ∀ (P2 H2 : Hp) (ds2 : List D) (T2 : FP), Ex P P2 → (∀ b u, 0 < Z b → H b = some u → H2 b = some u) → RepL c P2 H2 ds2 xs T2 → Rep c P2 H2 (.obj o k fs ds2) v (fa Z T2) := by
  cases o with
  | true =>
    obtain ⟨a, dx, xs, T, e1, h, n, rl, f⟩ := r
    exact ⟨a, dx, xs, T, one a, e1, h, n, rl, fun b => by rw [f]; rfl, fun P2 H2 ds2 T2 _ hk r2 => ⟨a, dx, xs, T2, e1, hk a _ (by simp [one]) h, n, r2, rfl⟩⟩
  | false =>
    obtain ⟨a, dx, xs, e1, h, n, rl⟩ := r
    exact ⟨a, dx, xs, U, fz, e1, e _ _ h, n, rl, fun b => by simp [fz], fun P2 H2 ds2 T2 hp _ r2 => ⟨a, dx, xs, e1, hp _ _ h, n, by rw [fz_fa]; exact r2⟩⟩
section
variable {X : Cx} {cl : Nat → Addr} {E : En} {e a b o : Expr} {es : List Expr} {pos p apos : Pos} {m : RM} {L : Lens}
theorem p_v (i : Nat) {x : Str} (hN : X.N[i]? = some x := by rfl) (hv : Vis X.env.scope x := by first | exact Or.inl rfl | exact Or.inr (Or.inl rfl) | exact Or.inr (Or.inr rfl)) (hd : (x == ("__debug__" : Str)) = false := by decide)
    (hcd : (x == ("__classdict__" : Str)) = false := by decide) : PE X (.Name x pos) (tPl ⟨X.K, cl, X.w⟩ E (vL i)) := PE_imp (pe_var hN hv hd hcd) fun σ H Q ⟨P, S, T, ρ, d, w, hg, q⟩ => by
  obtain ⟨h1, h2⟩ := vL_get hg
  obtain ⟨v, Sd, R, k1, k2, k3, k4⟩ := w.env.focus h1 h2
  exact ⟨v, k1, q v Sd R ⟨k3, k2, k4⟩⟩
theorem fld_split {n : Nat} {f : Str} {ρ : List D} {d : D} (h : (fldL n f L).get ρ = some d) : ∃ o fs ds j, L.get ρ = some (.obj o n fs ds) ∧ fIx f fs = some j ∧ ds[j]? = some d ∧ notGone d = true ∧ ∀ d2, (fldL n f L).put ρ d2 = L.put ρ (.obj o n fs (ds.set j d2)) := by
  unfold fldL at h
  cases e1 : L.get ρ with
  | none => simp [e1] at h
  | some d0 =>
    cases d0 with
    | obj o k fs ds =>
      simp only [e1, Option.bind_some] at h
      split at h
      · rename_i hk
        subst hk
        cases e2 : fIx f fs with
        | none => rw [e2] at h; cases h
        | some j =>
          rw [e2, Option.bind_some] at h
          cases e3 : ds[j]? with
          | none => rw [e3] at h; cases h
          | some d1 =>
            rw [e3, Option.bind_some] at h
            split at h
            · rename_i hn
              cases h
              exact ⟨o, fs, ds, j, rfl, e2, e3, hn, fun d2 => by simp [fldL, e1, e2]⟩
            · cases h
      · cases h
    | _ => simp [e1] at h
theorem p_fld (n : Nat) {f : Str} (hc : Cls X.K (cl n)) (hn : NoAttr X.K (cl n) f) (he : PE X e (tPl ⟨X.K, cl, X.w⟩ E L)) (hb : attributeBase e f X.env (eval e X.env) = eval e X.env := by rfl) : PE X (.Attribute e f pos) (tPl ⟨X.K, cl, X.w⟩ E (fldL n f L)) := PE_imp (pe_fld he hb) fun σ H Q ⟨P, S, T, ρ, d, w, hg, q⟩ => by
  obtain ⟨o, fs, ds, j, h1, h2, h3, h4, h5⟩ := fld_split hg
  refine ⟨P, S, T, ρ, _, w, h1, fun v Sd R l => ?_⟩
  obtain ⟨a, dx, xs, T1, Z, e1, hh, nl, rl, hz, hput⟩ := obj_heap w.ph l.rep
  obtain ⟨y, S1, R1, k1, k2, k3, k4⟩ := rl.focus h3
  refine ⟨a, cl n, dx, _, y, e1, hh, hc, hn, by rw [fIx_lookup h2 nl]; exact k1, q y S1 (fa (fa Z R1) R) ⟨fun b => ?_, k2, fun P2 H2 d2 S2 ep kr r2 => ?_⟩⟩
  · have := l.sum b; have := hz b; have := k3 b; simp only [fa]; omega
  · rw [h5]
    have rl2 := k4 P2 H2 d2 y S2 ep (fun b u z1 z2 => kr b u (by simp only [fa]; omega) z2) r2
    have e2 : xs.set j y = xs := by
      apply List.ext_getElem?
      intro t
      by_cases ht : t = j
      · subst ht; rw [k1, List.getElem?_set_self (List.getElem?_eq_some_iff.mp k1).1]
      · rw [List.getElem?_set_ne (Ne.symm ht)]
    rw [e2] at rl2
    have := l.put P2 H2 _ _ ep (fun b u z1 z2 => kr b u (by simp only [fa]; omega) z2) (hput P2 H2 _ _ ep (fun b u z1 z2 => kr b u (by simp only [fa]; omega) z2) rl2)
    have e3 : fa (fa Z (fa S2 R1)) R = fa S2 (fa (fa Z R1) R) := by funext b; simp only [fa]; omega
    rw [e3] at this
    exact this
theorem r_pl (h : PE X e (tPl ⟨X.K, cl, X.w⟩ E L)) : PE X e (tR ⟨X.K, cl, X.w⟩ E L.get) := PE_imp h fun σ H Q ⟨P, S, T, ρ, d, w, hm, q⟩ => ⟨P, S, T, ρ, d, w, hm, fun v Sd R l => q v H P Sd (.refl w.ph) l.rep⟩
end
end LI

namespace LI
open PySem L2

section
variable {c : LC} {E : En} {P P' : Hp} {S T : FP} {σ : L2.St} {H H' : Hp} {ρ ρ' : List D}
theorem Wd.through {Sd R V S2 U : FP} (w : Wd c E P S T σ H ρ) (hS : ∀ a, S a = Sd a + R a) (st : Stp P Sd H P' V H') (henv : RepE c P' H' ρ' σ S2) (h2 : ∀ a, S2 a + U a ≤ V a + R a) (hU : ∀ a, 0 < U a → H' a ≠ none) : Wd c E P' S2 (fa T U) σ H' ρ' := by
  have there : ∀ a, 0 < R a + T a → H a ≠ none ∧ Sd a = 0 := fun a h => by
    have l := w.le a
    have s := hS a
    refine ⟨?_, by omega⟩
    by_cases hT : 0 < T a
    · exact w.th a hT
    · exact RepE.there ρ σ S w.env a (by omega)
  have apart : ∀ a, 0 < V a → R a + T a = 0 := fun a h => by
    rcases st.ns a h with z | z
    · have l := w.le a; have s := hS a; omega
    · rcases Nat.eq_zero_or_pos (R a + T a) with q | q
      · exact q
      · exact absurd z (there a q).1
  have stay : ∀ a, 0 < R a + T a → P' a = none := fun a h => by
    cases q : P' a with
    | none => rfl
    | some o =>
      rcases st.np a (by rw [q]; simp) with z | z | z
      · exact absurd (w.out a (by have := hS a; omega)) z
      · have := (there a h).2; omega
      · exact absurd z (there a h).1
  refine ⟨henv, fun a => ?_, fun a h => ?_, fun a h => ?_, st.ph, w.p0.trans st.p0, fun a o h1 h2 => ?_, fun a h => ?_, fun a h => ?_, w.kp⟩
  · have h2a := h2 a; have le := st.le a; have l := w.le a; have s := hS a
    simp only [fa]
    by_cases hv : 0 < V a
    · have := apart a hv; omega
    · omega
  · simp only [fa] at h
    have h2a := h2 a
    by_cases hv : 0 < V a
    · exact st.out a hv
    · exact stay a (by omega)
  · simp only [fa] at h
    by_cases hT : 0 < T a
    · cases z : H a with
      | none => exact absurd z (w.th a hT)
      | some o => rw [st.fr a o (there a (by omega)).2 z]; simp
    · exact hU a (by omega)
  · refine st.fr a o ?_ (w.fr a o h1 h2)
    rcases Nat.eq_zero_or_pos (Sd a) with z | z
    · exact z
    · rcases w.ns a (by have := hS a; omega) with q | q
      · omega
      · rw [q] at h2; cases h2
  · rcases st.np a h with z | z | z
    · exact w.np a z
    · rcases w.ns a (by have := hS a; omega) with q | q
      · exact .inr (.inl q)
      · exact .inr (.inr q)
    · cases q : E.H0 a with
      | none => exact .inr (.inr rfl)
      | some o =>
        by_cases hs : E.S0 a = 0
        · rw [w.fr a o hs q] at z; cases z
        · exact .inr (.inl (by omega))
  · simp only [fa] at h
    have h2a := h2 a
    by_cases hv : 0 < V a
    · rcases st.ns a hv with z | z
      · exact w.ns a (by have := hS a; omega)
      · cases q : E.H0 a with
        | none => exact .inr rfl
        | some o =>
          by_cases hs : E.S0 a = 0
          · rw [w.fr a o hs q] at z; cases z
          · exact .inl (by omega)
    · exact w.ns a (by have := hS a; omega)
end

section
variable {X : Cx} {cl : Nat → Addr} {E : En} {e a b o : Expr} {es : List Expr} {pos p apos : Pos} {m : RM} {ms : AM} {CX : CXT} {k n : Nat} {f C : Addr} {fd : FuncData} {ps : List Str} {F : FM} {XE : XK} {x nm : Str} {L : Lens}
def isObjK (n : Nat) (nm : Str) : D → Bool
  | .obj _ k fs _ => decide (k = n) && !fs.contains nm
  | _ => false
def methM (n : Nat) (nm : Str) (L : Lens) (F : FM) (ms : AM) : GM := fun ρ => (L.get ρ).bind fun self => (ms ρ).bind fun ds => if isObjK n nm self = true ∧ frzL ds = true then (F (self :: ds)).bind fun r => match r.2 with | self' :: _ => some (r.1, L.put ρ self') | [] => none else none
theorem lookup_zip_none {nm : Str} : ∀ {fs : List Str} {xs : List V}, fs.contains nm = false → (fs.zip xs).lookup nm = none
  | [], _, _ => rfl
  | _ :: _, [], _ => rfl
  | g :: gs, y :: ys, h => by
    simp only [List.contains_cons, Bool.or_eq_false_iff] at h
    rw [List.zip_cons_cons]
    show (match nm == g with | true => some y | false => List.lookup nm (gs.zip ys)) = none
    rw [h.1]
    exact lookup_zip_none h.2
theorem isObj_v {c : LC} {P H : Hp} (e : Ex P H) {d : D} {v : V} {U : FP} (h : isObjK n nm d = true) (r : Rep c P H d v U) : ∃ a dx fs, v = .ref a ∧ H a = some (.ins (c.cl n) dx fs) ∧ fs.lookup nm = none := by
  cases d with
  | obj o k fs ds =>
    simp only [isObjK, Bool.and_eq_true, decide_eq_true_eq, Bool.not_eq_true'] at h
    obtain ⟨rfl, hn⟩ := h
    obtain ⟨a, dx, xs, T, Z, e1, hh, nl, _⟩ := obj_heap e r
    exact ⟨a, dx, _, e1, hh, lookup_zip_none hn⟩
  | _ => cases h
theorem meth_run (h : tG ⟨X.K, cl, X.w⟩ E (methM n nm L F ms) σ H Q) : tMeth (cl n) nm (spD ⟨X.K, cl, X.w⟩ F) [] XE (tPl ⟨X.K, cl, X.w⟩ E L) (tAR ⟨X.K, cl, X.w⟩ E ms) σ H Q := by
  obtain ⟨P, S, T, ρ, d, ρ', w, hm, q⟩ := h
  unfold methM at hm
  cases e1 : L.get ρ with
  | none => rw [e1] at hm; cases hm
  | some self =>
    cases e2 : ms ρ with
    | none => rw [e1, e2] at hm; cases hm
    | some ds =>
      rw [e1, e2, Option.bind_some, Option.bind_some] at hm
      split at hm
      · rename_i hc
        cases e3 : F (self :: ds) with
        | none => rw [e3] at hm; cases hm
        | some r =>
          obtain ⟨d1, rs⟩ := r
          rw [e3, Option.bind_some] at hm
          cases rs with
          | nil => cases hm
          | cons self' rs =>
            cases hm
            refine ⟨P, S, T, ρ, self, w, e1, fun v Sd R l => ?_⟩
            obtain ⟨a, dx, fs, ev, hh, hl⟩ := isObj_v w.ph hc.1 l.rep
            refine ⟨a, dx, fs, ev, hh, hl, P, S, T, ρ, ds, w, e2, fun vs H1 P1 U1 g1 r1 => ?_⟩
            have z := RepL.frz0 ds vs U1 hc.2 r1
            subst z
            have l1 := l.grow g1
            have w1 := w.grow g1
            show spD ⟨X.K, cl, X.w⟩ F (v :: (vs ++ [])) H1 Q XE
            rw [List.append_nil]
            refine ⟨P1, fa Sd fz, self :: ds, d1, self' :: rs, ⟨v, vs, Sd, fz, rfl, l1.rep, r1, rfl⟩, g1.ph, fun b => by have := w.le b; have := l.sum b; simp only [fa, fz]; omega, fun b hb => w1.out b (by have := l.sum b; simp only [fa, fz] at hb; omega), e3, fun v2 H2 P2 U S' st rd rl => ?_⟩
            rw [fa_fz] at st
            obtain ⟨y, ys, T1, T2, e4, rself, _, e5⟩ := rl
            cases e4
            have henv := l1.put P2 H2 self' T1 st.p0 (fun b u hb hu => st.fr b u (by have := w.le b; have := l.sum b; omega) hu) rself
            have w2 := w1.through l1.sum st henv (U := U) (fun b => by rw [e5]; simp only [fa]; omega) (Rep.there d1 v2 U rd)
            exact q v2 H2 P2 _ U w2 (g1.p.trans st.p0) rd fun b u hb hu => st.fr b u (by have := w.le b; have := l.sum b; omega) (g1.h b u hu)
      · cases hm
theorem g_meth {pl : Sem Bool} (n : Nat) (he : PE X o (tPl ⟨X.K, cl, X.w⟩ E L)) (c : Cls X.K (cl n)) (hm : Meth X.K (cl n) nm f) (G : FnOk X.prog X.w X.K X.mg X.base CX k f fd ps (spD ⟨X.K, cl, X.w⟩ F)) (hr : Room k X.A) (hb : Binds X.K fd ps []) (hx : Passes CX X XE) (ha : PA X (e :: es) (tAR ⟨X.K, cl, X.w⟩ E ms))
    (hst : starEach (e :: es) X.env = (false, eval e X.env) :: starEach es X.env := by rfl) (hpl : (backTo pos (starEach es X.env)).any (·.1) = false := by rfl)
    (ht : eval (.Call (.Attribute o nm apos) (e :: es) [] pos) X.env = (do
      let ov ← eval o X.env
      standAt apos.atName
      let (f, first) ← holding [ov] (getMethod ov nm pl)
      callWith pos f first (backTo pos (starEach (e :: es) X.env)) (backToKw pos (keywordEach [] X.env))) := by rfl) :
    PE X (.Call (.Attribute o nm apos) (e :: es) [] pos) (tG ⟨X.K, cl, X.w⟩ E (methM n nm L F ms)) := PE_imp (pe_meth he c hm G hr hb .nil hx ha hst hpl ht) fun _ _ _ h => meth_run h
theorem g_meth0 {pl : Sem Bool} (n : Nat) (he : PE X o (tPl ⟨X.K, cl, X.w⟩ E L)) (c : Cls X.K (cl n)) (hm : Meth X.K (cl n) nm f) (G : FnOk X.prog X.w X.K X.mg X.base CX k f fd ps (spD ⟨X.K, cl, X.w⟩ F)) (hr : Room k X.A) (hb : Binds X.K fd ps []) (hx : Passes CX X XE)
    (ht : eval (.Call (.Attribute o nm apos) [] [] pos) X.env = (do
      let ov ← eval o X.env
      standAt apos.atName
      let (f, first) ← holding [ov] (getMethod ov nm pl)
      callWith pos f first (backTo pos (starEach [] X.env)) (backToKw pos (keywordEach [] X.env))) := by rfl) :
    PE X (.Call (.Attribute o nm apos) [] [] pos) (tG ⟨X.K, cl, X.w⟩ E (methM n nm L F nilM)) := PE_imp (pe_meth0 he c hm G hr hb .nil hx ht) fun σ H Q h => by
  have h2 := meth_run (XE := XE) h
  obtain ⟨P, S, T, ρ, d, w, hg, q⟩ := h2
  refine ⟨P, S, T, ρ, d, w, hg, fun v Sd R l => ?_⟩
  obtain ⟨a, dx, fs, ev, hh, hl, P2, S2, T2, ρ2, ds, w2, hn, q2⟩ := q v Sd R l
  cases hn
  exact ⟨a, dx, fs, ev, hh, hl, q2 [] H P2 fz (.refl w2.ph) ⟨rfl, rfl⟩⟩
def lookM (n : Nat) (nm : Str) (mo : RM) (F : FM) (ms : AM) : RM := fun ρ => (mo ρ).bind fun self => (ms ρ).bind fun ds => if isObjK n nm self = true then (F (iceL (self :: ds))).bind fun r => if frzL (self :: ds) = true ∨ noIce r.1 = true then some r.1 else none else none
theorem look_run {mo : RM} (h : tF ⟨X.K, cl, X.w⟩ E (lookM n nm mo F ms) σ H Q) : tMeth (cl n) nm (spD ⟨X.K, cl, X.w⟩ F) [] XE (tR ⟨X.K, cl, X.w⟩ E mo) (tAR ⟨X.K, cl, X.w⟩ E ms) σ H Q := by
  obtain ⟨P, S, T, ρ, d, w, hm, q⟩ := h
  unfold lookM at hm
  cases e1 : mo ρ with
  | none => rw [e1] at hm; cases hm
  | some self =>
    cases e2 : ms ρ with
    | none => rw [e1, e2] at hm; cases hm
    | some ds =>
      rw [e1, e2, Option.bind_some, Option.bind_some] at hm
      split at hm
      · rename_i hc
        cases e3 : F (iceL (self :: ds)) with
        | none => rw [e3] at hm; cases hm
        | some r =>
          rw [e3, Option.bind_some] at hm
          split at hm
          · rename_i hz
            cases hm
            refine ⟨P, S, T, ρ, self, w, e1, fun v H1 P1 U1 g1 r1 => ?_⟩
            obtain ⟨a, dx, fs, ev, hh, hl⟩ := isObj_v g1.ph hc r1
            refine ⟨a, dx, fs, ev, hh, hl, P1, S, T, ρ, ds, w.grow g1, e2, fun vs H2 P2 U2 g2 r2 => ?_⟩
            show spD ⟨X.K, cl, X.w⟩ F (v :: (vs ++ [])) H2 Q XE
            rw [List.append_nil]
            exact spD_view (ds' := r.2) g2.ph (show RepL ⟨X.K, cl, X.w⟩ P2 H2 (self :: ds) (v :: vs) (fa U1 U2) from ⟨v, vs, U1, U2, rfl, r1.gr g2, r2, rfl⟩) e3 hz (q.grow (g1.trans g2))
          · cases hm
      · cases hm
theorem f_look0 {pl : Sem Bool} {mo : RM} (n : Nat) (he : PE X o (tR ⟨X.K, cl, X.w⟩ E mo)) (c : Cls X.K (cl n)) (hm : Meth X.K (cl n) nm f) (G : FnOk X.prog X.w X.K X.mg X.base CX k f fd ps (spD ⟨X.K, cl, X.w⟩ F)) (hr : Room k X.A) (hb : Binds X.K fd ps []) (hx : Passes CX X XE)
    (ht : eval (.Call (.Attribute o nm apos) [] [] pos) X.env = (do
      let ov ← eval o X.env
      standAt apos.atName
      let (f, first) ← holding [ov] (getMethod ov nm pl)
      callWith pos f first (backTo pos (starEach [] X.env)) (backToKw pos (keywordEach [] X.env))) := by rfl) :
    PE X (.Call (.Attribute o nm apos) [] [] pos) (tF ⟨X.K, cl, X.w⟩ E (lookM n nm mo F nilM)) := PE_imp (pe_meth0 he c hm G hr hb .nil hx ht) fun σ H Q h => by
  obtain ⟨P, S, T, ρ, d, w, hg, q⟩ := look_run (XE := XE) h
  refine ⟨P, S, T, ρ, d, w, hg, fun v H1 P1 U1 g1 r1 => ?_⟩
  obtain ⟨a, dx, fs, ev, hh, hl, P2, S2, T2, ρ2, ds, w2, hn, q2⟩ := q v H1 P1 U1 g1 r1
  cases hn
  exact ⟨a, dx, fs, ev, hh, hl, q2 [] H1 P2 fz (.refl w2.ph) ⟨rfl, rfl⟩⟩

theorem loc_lst {c : LC} {P H : Hp} {S T U : FP} {ρ : List D} {v : V} {ds : List D} {Sd R : FP} (w : Wd c E P S (fa T U) σ H ρ) (l : Loc c L P H σ ρ S v (.lst true ds) Sd R) : ∃ a xs T1, v = .ref a ∧ H a = some (.lst xs) ∧ RepL c P H ds xs T1 ∧ (∀ b, Sd b = one a b + T1 b) ∧
    ∀ (ys : List V) (es : List D) (T2 U2 : FP), RepL c P (upd H a (.lst ys)) es ys T2 → (∀ b, T2 b + U2 b ≤ T1 b + U b) → Wd c E P (fa (fa (one a) T2) R) (fa T U2) σ (upd H a (.lst ys)) (L.put ρ (.lst true es)) := by
  obtain ⟨a, xs, T1, e1, hh, rl, f⟩ := l.rep
  have hSd : ∀ b, Sd b = one a b + T1 b := fun b => by rw [f]; rfl
  refine ⟨a, xs, T1, e1, hh, rl, hSd, fun ys es T2 U2 r2 hb => ?_⟩
  have ha : 0 < S a := by have := l.sum a; have := hSd a; simp [one] at *; omega
  have henv := l.put P (upd H a (.lst ys)) (.lst true es) (fa (one a) T2) (.refl _) (fun b u hb hu => by
    have hne : b ≠ a := fun z => by
      subst z
      have := w.le b; have := l.sum b; have := hSd b
      simp [one] at *; omega
    rw [upd_ne hne]; exact hu) ⟨a, ys, T2, e1, upd_same, r2, rfl⟩
  have wT : Wd c E P S (fa T U) σ H ρ := w
  -- the part aside may give to the slots
  have hP : P a = none := w.out a (by omega)
  refine ⟨henv, fun b => ?_, fun b z => ?_, fun b z => ?_, fun b u z => ?_, w.p0, fun b u z1 z2 => ?_, w.np, fun b z => ?_, w.kp⟩
  · have := w.le b; have := l.sum b; have := hSd b; have := hb b; simp only [fa] at *; omega
  · refine w.out b ?_; have := l.sum b; have := hSd b; have := hb b; simp only [fa] at *; omega
  · by_cases e : b = a
    · subst e; rw [upd_same]; simp
    · rw [upd_ne e]
      by_cases hT : 0 < fa T U b
      · exact w.th b hT
      · refine RepE.there ρ σ S w.env b ?_
        have := l.sum b; have := hSd b; have := hb b; simp only [fa] at *; omega
  · have e : b ≠ a := fun q => by subst q; rw [hP] at z; cases z
    rw [upd_ne e]; exact w.ph b u z
  · have e : b ≠ a := fun q => by
      subst q
      rcases w.ns b (by omega) with y | y
      · omega
      · rw [y] at z2; cases z2
    rw [upd_ne e]; exact w.fr b u z1 z2
  · refine w.ns b ?_; have := l.sum b; have := hSd b; have := hb b; simp only [fa] at *; omega
def appL (L : Lens) (m : RM) : GM := fun ρ => (L.get ρ).bind fun d => (m ρ).bind fun y => match d with | .lst true ds => if ds.length < LIM then some (.non, L.put ρ (.lst true (ds ++ [y]))) else none | _ => none
theorem repL_h' {c : LC} {P H H' : Hp} {ds : List D} {xs : List V} {S : FP} (r : RepL c P H ds xs S) (k : ∀ a o, 0 < S a → H a = some o → H' a = some o) : RepL c P H' ds xs S := RepL.mono (.refl _) ds xs S k r
theorem g_app (he : PE X o (tPl ⟨X.K, cl, X.w⟩ E L)) (ha : PE X e (tF ⟨X.K, cl, X.w⟩ E m))
    (hbase : attributeBase o "append" X.env (eval o X.env) = eval o X.env := by rfl)
    (hfew : ((backTo pos (starEach [e] X.env)).all (fun x => !x.1) && (backToKw pos (keywordEach [] X.env)).all (fun x => x.1.isSome)
      && decide ([e].length + ([] : List Keyword).length + (if ([] : List Keyword).isEmpty then 0 else 1) < 30)) = true := by rfl)
    (hline : (apos.endLine == pos.line) = true := by rfl) (hs : starEach [e] X.env = (false, eval e X.env) :: starEach [] X.env := by rfl) : PE X (.Call (.Attribute o "append" apos) [e] [] pos) (tG ⟨X.K, cl, X.w⟩ E (appL L m)) := by
  refine PE_imp (pe_bm PySem.F.plainAttrs_list PySem.F.slot_list_append PySem.F.type_list_append mt_append he (pa_cons ha pa_nil hs) hbase hfew hline hs) fun σ H Q ⟨P, S, T, ρ, d, ρ', w, hm, q⟩ => ?_
  unfold appL at hm
  cases e1 : L.get ρ with
  | none => rw [e1] at hm; cases hm
  | some d0 =>
    cases e2 : m ρ with
    | none => rw [e1, e2] at hm; cases hm
    | some y =>
      rw [e1, e2, Option.bind_some, Option.bind_some] at hm
      split at hm
      · rename_i ds
        split at hm
        · rename_i hl
          cases hm
          refine ⟨P, S, T, ρ, _, w, e1, fun v Sd R l => ?_⟩
          obtain ⟨a0, xs0, T0, e0, h0, _⟩ := l.rep
          refine ⟨by rw [e0]; exact .inl ⟨rfl, xs0, .inl (.inl h0)⟩, P, S, T, ρ, y, w, e2, fun z H1 P1 U1 g1 r1 u1 u2 => ?_⟩
          have w1 := w.aside g1 u1 u2 (Rep.there y z U1 r1)
          obtain ⟨a, xs, T1, ev, hh, rl, hS, k⟩ := loc_lst w1 (l.grow g1)
          have hl' : xs.length < sizeLine := by rw [← rl.length]; exact lim_lt hl
          have ha0 : 0 < S a := by have := l.sum a; have := hS a; simp [one] at *; omega
          refine ⟨a, xs, z, ev, rfl, hh, hl', ?_⟩
          have keepT : ∀ b u, 0 < T1 b + U1 b → H1 b = some u → upd H1 a (.lst (xs ++ [z])) b = some u := fun b u hb hu => by
            have : b ≠ a := fun q => by
              subst q
              have := w1.le b; have := l.sum b; have := hS b
              simp [one, fa] at *; omega
            rw [upd_ne this]; exact hu
          have r2 : RepL ⟨X.K, cl, X.w⟩ P1 (upd H1 a (.lst (xs ++ [z]))) (ds ++ [y]) (xs ++ [z]) (fa T1 (fa U1 fz)) :=
            RepL.append (repL_h' rl fun b u hb hu => keepT b u (by omega) hu) ⟨z, [], U1, fz, rfl, Rep.mono (.refl _) y z U1 (fun b u hb hu => keepT b u (by omega) hu) r1, ⟨rfl, rfl⟩, rfl⟩
          have w2 := k _ _ _ fz r2 fun b => by simp only [fa, fz]; omega
          exact q .non _ P1 _ fz w2 g1.p ⟨rfl, rfl⟩ fun b u hb hu => by
            have : b ≠ a := fun z2 => by subst z2; have := w.le b; omega
            rw [upd_ne this]; exact g1.h b u hu
        · cases hm
      · cases hm
end
end LI

namespace LI
open PySem L2

section
variable {X : Cx} {cl : Nat → Addr} {E : En} {e a b o : Expr} {es : List Expr} {pos pos' p apos : Pos} {m : RM} {g : GM} {ms : AM} {n : Nat} {f nm : Str} {L : Lens} {σ : L2.St}
theorem loc_own {c : LC} {P H : Hp} {S T U : FP} {ρ : List D} {v : V} {d : D} {Sd R T1 : FP} {a : Addr} (w : Wd c E P S (fa T U) σ H ρ) (l : Loc c L P H σ ρ S v d Sd R) (hSd : ∀ b, Sd b = one a b + T1 b) (hu : ∀ b, 0 < T1 b + U b → H b ≠ none) :
    ∀ (o : HO) (d2 : D) (T2 U2 : FP), Rep c P (upd H a o) d2 v (fa (one a) T2) → (∀ b, T2 b + U2 b ≤ T1 b + U b) → Wd c E P (fa (fa (one a) T2) R) (fa T U2) σ (upd H a o) (L.put ρ d2) := by
  intro o d2 T2 U2 r2 hb
  have ha : 0 < S a := by have := l.sum a; have := hSd a; simp [one] at *; omega
  have henv := l.put P (upd H a o) d2 (fa (one a) T2) (.refl _) (fun b u hb hu => by
    have hne : b ≠ a := fun z => by
      subst z
      have := w.le b; have := l.sum b; have := hSd b
      simp [one] at *; omega
    rw [upd_ne hne]; exact hu) r2
  have hP : P a = none := w.out a (by omega)
  refine ⟨henv, fun b => ?_, fun b z => ?_, fun b z => ?_, fun b u z => ?_, w.p0, fun b u z1 z2 => ?_, w.np, fun b z => ?_, w.kp⟩
  · have := w.le b; have := l.sum b; have := hSd b; have := hb b; simp only [fa] at *; omega
  · refine w.out b ?_; have := l.sum b; have := hSd b; have := hb b; simp only [fa] at *; omega
  · by_cases e : b = a
    · subst e; rw [upd_same]; simp
    · rw [upd_ne e]
      by_cases hT : 0 < fa T U b
      · exact w.th b hT
      · refine hu b ?_
        have := hb b; simp only [fa] at *; omega
  · have e : b ≠ a := fun q => by subst q; rw [hP] at z; cases z
    rw [upd_ne e]; exact w.ph b u z
  · have e : b ≠ a := fun q => by
      subst q
      rcases w.ns b (by omega) with y | y
      · omega
      · rw [y] at z2; cases z2
    rw [upd_ne e]; exact w.fr b u z1 z2
  · refine w.ns b ?_; have := l.sum b; have := hSd b; have := hb b; simp only [fa] at *; omega
theorem keep_own {c : LC} {P H : Hp} {S T : FP} {ρ : List D} {v : V} {d : D} {Sd R T1 : FP} {a : Addr} (w : Wd c E P S T σ H ρ) (l : Loc c L P H σ ρ S v d Sd R) (hSd : ∀ b, Sd b = one a b + T1 b) (o : HO) : ∀ b u, 0 < T1 b + T b → H b = some u → upd H a o b = some u := fun b u hb hu => by
  have : b ≠ a := fun q => by
    subst q
    have := w.le b; have := l.sum b; have := hSd b
    simp [one] at *; omega
  rw [upd_ne this]; exact hu

def setFD (n : Nat) (f : Str) (d : D) : D → Option D
  | .obj true k fs ds => if k = n ∧ fs.length < 1000 then some (match fIx f fs with | some j => .obj true k fs (ds.set j d) | none => .obj true k (fs ++ [f]) (ds ++ [d])) else none
  | _ => none
def fldM (n : Nat) (f : Str) (L : Lens) (g : GM) : SM := fun ρ => (g ρ).bind fun r => (L.get r.2).bind fun self => (setFD n f r.1 self).map fun self' => (.nx, L.put r.2 self')
theorem fIx_lt {f : Str} : ∀ {fs : List Str} {j : Nat}, fIx f fs = some j → j < fs.length
  | [], j, h => by cases h
  | g :: gs, j, h => by
    unfold fIx at h
    by_cases e : f = g
    · rw [if_pos e] at h; cases h; simp
    · rw [if_neg e] at h
      cases z : fIx f gs with
      | none => rw [z] at h; cases h
      | some j' => rw [z] at h; cases h; have := fIx_lt z; simp; omega
theorem putF_some {f : Str} {y : V} : ∀ {fs : List Str} {xs : List V} {j : Nat}, fIx f fs = some j → fs.length = xs.length → putF f y (fs.zip xs) = fs.zip (xs.set j y)
  | [], xs, j, h, n => by cases h
  | g :: gs, [], j, h, n => by simp at n
  | g :: gs, x :: xs, j, h, n => by
    unfold fIx at h
    by_cases e : f = g
    · rw [if_pos e] at h; cases h
      rw [List.zip_cons_cons]
      show (if g = f then (g, y) :: gs.zip xs else _) = _
      rw [if_pos e.symm]; rfl
    · rw [if_neg e] at h
      cases z : fIx f gs with
      | none => rw [z] at h; cases h
      | some j' =>
        rw [z] at h; cases h
        rw [List.zip_cons_cons]
        show (if g = f then _ else (g, x) :: putF f y (gs.zip xs)) = _
        rw [if_neg (fun q => e q.symm), putF_some z (by simpa using n)]; rfl
theorem putF_none {f : Str} {y : V} : ∀ {fs : List Str} {xs : List V}, fIx f fs = none → fs.length = xs.length → putF f y (fs.zip xs) = (fs ++ [f]).zip (xs ++ [y])
  | [], xs, h, n => by
    have : xs = [] := List.length_eq_zero_iff.mp n.symm
    subst this; rfl
  | g :: gs, [], h, n => by simp at n
  | g :: gs, x :: xs, h, n => by
    unfold fIx at h
    by_cases e : f = g
    · rw [if_pos e] at h; cases h
    · rw [if_neg e] at h
      have z : fIx f gs = none := by cases z : fIx f gs with | none => rfl | some j' => rw [z] at h; cases h
      rw [List.zip_cons_cons]
      show (if g = f then _ else (g, x) :: putF f y (gs.zip xs)) = _
      rw [if_neg (fun q => e q.symm), putF_none z (by simpa using n)]; rfl
theorem s_fld (n : Nat) {value : Expr} (hc : Cls X.K (cl n)) (hn : NoAttr X.K (cl n) f) (he : PE X value (tG ⟨X.K, cl, X.w⟩ E g)) (ho : PE X o (tPl ⟨X.K, cl, X.w⟩ E L)) (hs : swapsWith value (some (.Attribute o f pos')) pos.line X.env = pure false := by rfl) :
    PS X (.Assign [.Attribute o f pos'] value pos) (tS ⟨X.K, cl, X.w⟩ E (fldM n f L g)) := PS_imp (ps_fld ho he hs) fun D σ H ⟨P, S, ρ, fl, ρ', w, hm, q⟩ => by
  unfold fldM at hm
  cases eg : g ρ with
  | none => rw [eg] at hm; cases hm
  | some r =>
    obtain ⟨d, ρ1⟩ := r
    rw [eg, Option.bind_some] at hm
    cases el : L.get ρ1 with
    | none => rw [el] at hm; cases hm
    | some self =>
      rw [el, Option.bind_some] at hm
      cases ef : setFD n f d self with
      | none => rw [ef] at hm; cases hm
      | some self' =>
        rw [ef] at hm
        cases hm
        refine g_run w eg fun y H1 P1 S1 U w1 e1 r1 => ⟨P1, S1, U, ρ1, self, w1, el, fun v Sd R l => ?_⟩
        unfold setFD at ef
        split at ef
        · rename_i k fs ds
          split at ef
          · rename_i hk
            obtain ⟨rfl, hl⟩ := hk
            cases ef
            obtain ⟨a, dx, xs, T1, ev, hh, nl, rl, hf⟩ := l.rep
            have hS : ∀ b, Sd b = one a b + T1 b := fun b => by rw [hf]; rfl
            have w1' : Wd ⟨X.K, cl, X.w⟩ E P1 S1 (fa fz U) σ H1 ρ1 := by rw [fz_fa]; exact w1
            refine ⟨a, cl k, dx, _, ev, hh, hc, hn, by rw [List.length_zip]; omega, ?_⟩
            have kp := fun o => keep_own w1 l hS o
            have hu : ∀ b, 0 < T1 b + U b → H1 b ≠ none := fun b hb => by
              by_cases hU : 0 < U b
              · exact w1.th b hU
              · exact RepL.there ds xs T1 rl b (by omega)
            cases ej : fIx f fs with
            | some j =>
              have hj : j < xs.length := by
                have := fIx_lt ej
                omega
              obtain ⟨x0, hx0⟩ : ∃ x0, ds[j]? = some x0 := ⟨_, List.getElem?_eq_getElem (by rw [rl.length]; exact hj)⟩
              obtain ⟨v0, S0, R0, k1, k2, k3, k4⟩ := rl.focus hx0
              rw [putF_some ej nl]
              have rnew := k4 P1 (upd H1 a (.ins (cl k) dx (fs.zip (xs.set j y)))) d y U (.refl _) (fun b u hb hu => kp _ b u (by have := k3 b; omega) hu) (Rep.mono (.refl _) d y U (fun b u hb hu => kp _ b u (by omega) hu) r1)
              have w2 := loc_own w1' l hS hu (.ins (cl k) dx (fs.zip (xs.set j y))) (.obj true k fs (ds.set j d)) (fa U R0) fz ⟨a, dx, _, fa U R0, ev, upd_same, by rw [List.length_set]; exact nl, rnew, rfl⟩ (fun b => by have := k3 b; simp only [fa, fz]; omega)
              rw [fa_fz] at w2
              simp only [ej] at q
              exact q σ _ P1 _ w2 e1
            | none =>
              rw [putF_none ej nl]
              have rnew : RepL ⟨X.K, cl, X.w⟩ P1 (upd H1 a (.ins (cl k) dx ((fs ++ [f]).zip (xs ++ [y])))) (ds ++ [d]) (xs ++ [y]) (fa T1 (fa U fz)) :=
                RepL.append (repL_h' rl fun b u hb hu => kp _ b u (by omega) hu) ⟨y, [], U, fz, rfl, Rep.mono (.refl _) d y U (fun b u hb hu => kp _ b u (by omega) hu) r1, ⟨rfl, rfl⟩, rfl⟩
              have w2 := loc_own w1' l hS hu (.ins (cl k) dx ((fs ++ [f]).zip (xs ++ [y]))) (.obj true k (fs ++ [f]) (ds ++ [d])) (fa T1 (fa U fz)) fz ⟨a, dx, _, _, ev, upd_same, by simp [nl], rnew, rfl⟩ (fun b => by simp only [fa, fz]; omega)
              rw [fa_fz] at w2
              simp only [ej] at q
              exact q σ _ P1 _ w2 e1
          · cases ef
        · cases ef

def extS (i : Nat) (g : GM) : GM := fun ρ => match ρ[i]? with
  | some (.lst true _) => (g ρ).bind fun r => match r.1, r.2[i]? with
    | .lst _ ys, some (.lst true ds) => if frzL ys = true ∧ ds.length + ys.length ≤ LIM then some (.non, r.2.set i (.lst true (ds ++ ys))) else none
    | _, _ => none
  | _ => none
theorem loc_v {c : LC} {P H : Hp} {S T : FP} {ρ : List D} {i : Nat} {d : D} {v : V} (w : Wd c E P S T σ H ρ) (h : ρ[i]? = some d) (hn : notGone d = true) (hv : σ[i]? = some (some v)) : ∃ Sd R, Loc c (vL i) P H σ ρ S v d Sd R := by
  obtain ⟨v', Sd, R, k1, k2, k3, k4⟩ := w.env.focus h hn
  rw [hv] at k1
  cases k1
  exact ⟨Sd, R, k3, k2, k4⟩
theorem g_ext (i : Nat) {x : Str} {px : Pos} (he : PE X e (tG ⟨X.K, cl, X.w⟩ E g)) (hN : X.N[i]? = some x := by rfl) (hv : Vis X.env.scope x := by first | exact Or.inl rfl | exact Or.inr (Or.inl rfl) | exact Or.inr (Or.inr rfl))
    (hd : (x == ("__debug__" : Str)) = false := by decide) (hcd : (x == ("__classdict__" : Str)) = false := by decide)
    (hbase : attributeBase (.Name x px) "extend" X.env (eval (.Name x px) X.env) = eval (.Name x px) X.env := by rfl)
    (hfew : ((backTo pos (starEach [e] X.env)).all (fun x => !x.1) && (backToKw pos (keywordEach [] X.env)).all (fun x => x.1.isSome)
      && decide ([e].length + ([] : List Keyword).length + (if ([] : List Keyword).isEmpty then 0 else 1) < 30)) = true := by rfl)
    (hline : (apos.endLine == pos.line) = true := by rfl) (hs : starEach [e] X.env = (false, eval e X.env) :: starEach [] X.env := by rfl) : PE X (.Call (.Attribute (.Name x px) "extend" apos) [e] [] pos) (tG ⟨X.K, cl, X.w⟩ E (extS i g)) := by
  refine PE_imp (pe_bm PySem.F.plainAttrs_list PySem.F.slot_list_extend PySem.F.type_list_extend mt_extend (pe_var hN hv hd hcd) (pa_cons he pa_nil hs) hbase hfew hline hs) fun σ H Q ⟨P, S, T, ρ, d, ρ', w, hm, q⟩ => ?_
  unfold extS at hm
  split at hm
  · rename_i ds0 hi
    cases eg : g ρ with
    | none => rw [eg] at hm; cases hm
    | some r =>
      obtain ⟨dy, ρ1⟩ := r
      rw [eg, Option.bind_some] at hm
      split at hm
      · rename_i o' ys ds h1 h2
        split at hm
        · rename_i hl
          cases hm
          obtain ⟨v, Sd0, R0, hv0, r0, _, _⟩ := w.env.focus hi rfl
          obtain ⟨a0, xs0, T0, ev0, h0, _⟩ := r0
          refine ⟨v, hv0, by rw [ev0]; exact .inl ⟨rfl, xs0, .inl (.inl h0)⟩, P, S, T, ρ, dy, ρ1, w, eg, fun z H1 P1 S1 U1 w1 ep r1 kT => ?_⟩
          replace h1 : dy = .lst o' ys := h1
          subst h1
          obtain ⟨Sd, R, l⟩ := loc_v w1 (show ρ1[i]? = some _ from h2) rfl hv0
          obtain ⟨a, xs, T1, ev, hh, rl, hf⟩ := l.rep
          have hS : ∀ b, Sd b = one a b + T1 b := fun b => by rw [hf]; rfl
          obtain ⟨p2, zs, ez, hz, rz⟩ := lst_heap0 w1.ph r1 hl.1
          refine ⟨a, p2, xs, zs, ev, by rw [ez], hh, hz, by rw [← rl.length, ← rz.length]; exact lim_le hl.2, ?_⟩
          have kp := fun o => keep_own w1 l hS o
          have hu : ∀ b, 0 < T1 b + U1 b → H1 b ≠ none := fun b hb => by
            by_cases hU : 0 < U1 b
            · exact w1.th b (by simp only [fa]; omega)
            · exact RepL.there ds xs T1 rl b (by omega)
          have rnew : RepL ⟨X.K, cl, X.w⟩ P1 (upd H1 a (.lst (xs ++ zs))) (ds ++ ys) (xs ++ zs) (fa T1 fz) :=
            RepL.append (repL_h' rl fun b u hb hu => kp _ b u (by omega) hu) (repL_h rz)
          have w2 := loc_own w1 l hS hu (.lst (xs ++ zs)) (.lst true (ds ++ ys)) (fa T1 fz) fz ⟨a, _, _, ev, upd_same, rnew, rfl⟩ (fun b => by simp only [fa, fz]; omega)
          exact q .non _ P1 _ fz w2 ep ⟨rfl, rfl⟩ fun b u hb hu => kp _ b u (by simp only [fa]; omega) (kT b u hb hu)
        · cases hm
      · cases hm
  · cases hm

end
end LI

namespace LI
open PySem L2

section
variable {X : Cx} {cl : Nat → Addr} {E : En} {e a b o : Expr} {es : List Expr} {pos pos' p apos : Pos} {m mo : RM} {g : GM} {ms : AM} {n : Nat} {f nm : Str} {L : Lens} {σ : L2.St}
def frM (m : RM) : RM := fun ρ => (m ρ).bind fun d => if frz d = true then some d else none
end

def spLaw (K : PySem.W.Frag) : Sp := fun vs H Q _ => ∃ (a : Addr) (ns : List Int), vs = [.ref a] ∧ SqL K H a (ns.map V.int) ∧ ns.length ≤ 63 ∧ (∀ z ∈ ns, Builtin.Int.intBits z ≤ 1048576) ∧ ∀ H', Q (.bl true) H'
theorem law_ok {P : Program} {w : World} {K : PySem.W.Frag} {mg : Str → Option Value} {base : Heap} {CX : CXT} {k : Nat} {f : Addr} {fd : FuncData} {ps : List Str} {F : FM} {cl : Nat → Addr} (G : FnOk P w K mg base CX k f fd ps (spD ⟨K, cl, w⟩ F))
    (h : ∀ ns : List Int, ns.length ≤ 63 → (∀ z ∈ ns, Builtin.Int.intBits z ≤ 1048576) → ∃ ds', F [.scr ns] = some (.bl true, ds')) : FnOk P w K mg base CX k f fd ps (spLaw K) :=
  G.imp fun vs H Q E ⟨a, ns, e, hs, hl, hb, q⟩ => by
    obtain ⟨ds', hF⟩ := h ns hl hb
    refine ⟨H, fz, [.scr ns], .bl true, ds', ⟨.ref a, [], fz, fz, e, ⟨a, rfl, hs, rfl⟩, ⟨rfl, rfl⟩, (fa_fz fz).symm⟩, .refl _, fun _ => Nat.zero_le _, fun a z => by simp [fz] at z, hF, fun v H' P' U S' st rd _ => ?_⟩
    rw [rd.1]
    exact q H'
end LI

namespace LI
open PySem L2

section
variable {X : Cx} {cl : Nat → Addr} {E : En} {e a b o : Expr} {es : List Expr} {pos pos' p apos : Pos} {m mo ma mb : RM} {g : GM} {ms : AM} {n : Nat} {nm x : Str} {L : Lens} {σ : L2.St} {CX : CXT} {k : Nat} {fa' : Addr} {fd : FuncData} {ps : List Str} {F : FM} {XE : XK}
def VQ (c : LC) (P H : Hp) (d : D) (Q : VK) : Prop := ∀ v H' P' U, Gr P H P' H' → Rep c H' H' d v U → Q v H'
def tV (c : LC) (E : En) (m : RM) : TE := fun σ H Q => ∃ P S T ρ d, Wd c E P S T σ H ρ ∧ m ρ = some d ∧ VQ c P H d Q
theorem v_r (h : PE X e (tR ⟨X.K, cl, X.w⟩ E m)) : PE X e (tV ⟨X.K, cl, X.w⟩ E m) := PE_imp h fun σ H Q ⟨P, S, T, ρ, d, w, hm, q⟩ => ⟨P, S, T, ρ, d, w, hm, fun v H' P' U g r => q v H' P' U g (Rep.mono g.ph d v U (fun _ _ _ h => h) r)⟩
theorem FQ.flatV {c : LC} {P H : Hp} {d : D} {Q : VK} (hp : Ex P H) (hd : isFlat d = true) (h : FQ c P H d Q) : FQ c H H d Q := fun v H' P' U g r _ _ =>
  h v H' P fz ⟨.refl _, g.h, hp.trans g.h, fun _ z => .inl z⟩ (flat_any (c := c) hd r) (fun _ => Nat.zero_le _) fun a z => by simp [fz] at z
def FlatOp (f : D → D → Option D) : Prop := ∀ a b d, f a b = some d → isFlat d = true
theorem op2_runW {r : R2} {f : D → D → Option D} (hf : Op2 ⟨X.K, cl, X.w⟩ r f) (hz : FlatOp f) {H : Hp} {Q : VK} (h : tF ⟨X.K, cl, X.w⟩ E (m2 f ma mb) σ H Q) : tOp r (tV ⟨X.K, cl, X.w⟩ E ma) (tV ⟨X.K, cl, X.w⟩ E mb) σ H Q := by
  obtain ⟨P, S, T, ρ, d, w, hm, q⟩ := h
  obtain ⟨da, db, ea, eb, hm⟩ := m2_split hm
  refine ⟨P, S, T, ρ, da, w, ea, fun x H1 P1 U1 g1 r1 => ⟨P1, S, T, ρ, db, w.grow g1, eb, fun y H2 P2 U2 g2 r2 => ?_⟩⟩
  exact hf H2 H2 (.refl _) _ _ _ _ _ _ _ hm (Rep.mono g2.h da x U1 (fun a o _ h => g2.h a o h) r1) r2 Q ((q.grow (g1.trans g2)).flatV g2.ph (hz _ _ _ hm))
theorem v_cmp {op : CmpOp} {r : R2} {f : D → D → Option D} (ho : OpR X (compareOp op) r) (hf : Op2 ⟨X.K, cl, X.w⟩ r f) (hz : FlatOp f) (ha : PE X a (tV ⟨X.K, cl, X.w⟩ E ma)) (hb : PE X b (tV ⟨X.K, cl, X.w⟩ E mb)) (hm : behindInMarks op b = false) : PE X (.Compare a [op] [b] pos) (tF ⟨X.K, cl, X.w⟩ E (m2 f ma mb)) :=
  PE_imp (pe_cmpR ho ha hb hm) fun _ _ _ h => op2_runW hf hz h
theorem tv_cmp {op : CmpOp} {r : R2} {f : D → D → Option D} (ho : OpR X (compareOp op) r) (hf : Op2 ⟨X.K, cl, X.w⟩ r f) (hz : FlatOp f) (ha : PE X a (tV ⟨X.K, cl, X.w⟩ E ma)) (hb : PE X b (tV ⟨X.K, cl, X.w⟩ E mb)) (hm : behindInMarks op b = false) : PT X (.Compare a [op] [b] pos) (tT ⟨X.K, cl, X.w⟩ E (bM (m2 f ma mb))) :=
  t_test (pt_cmpR ho ha hb hm) fun _ _ _ h => op2_runW hf hz h
theorem flat_eq : FlatOp eqD := fun a b d h => by
  unfold eqD at h
  cases z : eqB a b with
  | none => rw [z] at h; cases h
  | some k => rw [z] at h; cases h; rfl
theorem flat_ne : FlatOp neD := fun a b d h => by
  unfold neD at h
  cases z : eqB a b with
  | none => rw [z] at h; cases h
  | some k => rw [z] at h; cases h; rfl
def callVM (F : FM) (ms : AM) : RM := fun ρ => (ms ρ).bind fun ds => (F (iceL ds)).map (·.1)
theorem spD_viewV {c : LC} {F : FM} {P H : Hp} {ds : List D} {vs : List V} {U : FP} {d : D} {ds' : List D} {Q : VK} {E : XK} (e : Ex P H) (r : RepL c P H ds vs U) (hf : F (iceL ds) = some (d, ds')) (q : VQ c P H d Q) : spD c F vs H Q E := by
  refine ⟨coldP U P H, fz, iceL ds, d, ds', RepL.ice (coldP_p e) ds vs U (fun a o h1 h2 => by unfold coldP; rw [if_pos h1]; exact h2) r, coldP_h e, fun _ => Nat.zero_le _, fun a h => by simp [fz] at h, hf, fun v H' P' U2 S' st rd rs => ?_⟩
  have hH : Ex H H' := fun a o h => st.fr a o rfl h
  exact q v H' P U2 ⟨.refl _, hH, e.trans hH, fun a h => .inl h⟩ (Rep.mono st.ph d v U2 (fun _ _ _ h => h) rd)
theorem callV_split {ρ : List D} {d : D} (h : callVM F ms ρ = some d) : ∃ ds ds', ms ρ = some ds ∧ F (iceL ds) = some (d, ds') := by
  unfold callVM at h
  cases e1 : ms ρ with
  | none => rw [e1] at h; cases h
  | some ds =>
    rw [e1, Option.bind_some] at h
    cases e2 : F (iceL ds) with
    | none => rw [e2] at h; cases h
    | some r => rw [e2] at h; cases h; exact ⟨ds, r.2, rfl, e2⟩
theorem v_call (G : FnOk X.prog X.w X.K X.mg X.base CX k fa' fd ps (spD ⟨X.K, cl, X.w⟩ F)) (hr : Room k X.A) (hg : Gl X x) (hm : X.mg x = some (.ref fa')) (hk : PySem.W.keepIn X.K (.ref fa') = true) (hb : Binds X.K fd ps []) (hx : Passes CX X XE)
    (ha : PA X (e :: es) (tAR ⟨X.K, cl, X.w⟩ E ms)) (hdb : (x == ("__debug__" : Str)) = false := by decide) (he : starEach (e :: es) X.env = (false, eval e X.env) :: starEach es X.env := by rfl) (hpl : (backTo pos (starEach es X.env)).any (·.1) = false := by rfl) :
    PE X (.Call (.Name x p) (e :: es) [] pos) (tV ⟨X.K, cl, X.w⟩ E (callVM F ms)) := PE_imp (pe_call G hr hg hm hk hb .nil hx ha hdb he hpl) fun σ H Q ⟨P, S, T, ρ, d, w, h, q⟩ => by
  obtain ⟨ds, ds', e1, e2⟩ := callV_split h
  refine ⟨P, S, T, ρ, ds, w, e1, fun vs H1 P1 U1 g1 r1 => ?_⟩
  show spD ⟨X.K, cl, X.w⟩ F (vs ++ []) H1 Q XE
  rw [List.append_nil]
  exact spD_viewV g1.ph r1 e2 fun v H' P' U g r => q v H' P' U (g1.trans g) r
theorem f_gl {v : V} (d : D) (h : ∃ u, X.mg x = some u ∧ RelV v u) (hr : ∀ P H, Ex P H → Rep ⟨X.K, cl, X.w⟩ P H d v fz) (hg : Gl X x := by rfl) (hd : (x == ("__debug__" : Str)) = false := by decide) : PE X (.Name x pos) (tF ⟨X.K, cl, X.w⟩ E (kM d)) := by
  obtain ⟨u, h1, h2⟩ := h
  exact f_glob d hg h1 h2 hr hd
theorem f_glS (s : List Nat) (h : ∃ u, X.mg x = some u ∧ RelV (.str ⟨s.toArray⟩) u) (hg : Gl X x := by rfl) (hd : (x == ("__debug__" : Str)) = false := by decide) : PE X (.Name x pos) (tF ⟨X.K, cl, X.w⟩ E (kM (.str s))) := f_gl (.str s) h (fun _ _ _ => ⟨rfl, rfl⟩) hg hd
theorem f_glI (i : Int) (h : ∃ u, X.mg x = some u ∧ RelV (.int i) u) (hg : Gl X x := by rfl) (hd : (x == ("__debug__" : Str)) = false := by decide) : PE X (.Name x pos) (tF ⟨X.K, cl, X.w⟩ E (kM (.int i))) := f_gl (.int i) h (fun _ _ _ => ⟨rfl, rfl⟩) hg hd
theorem f_isi' {ty : String} {b0 : Expr} (ha : PE X a (tR ⟨X.K, cl, X.w⟩ E ma)) (hb : PE X b0 (tC (.ty ty))) (hm : X.mg "isinstance" = none) (hg : Gl X "isinstance" := by rfl)
    (hs1 : starEach [a, b0] X.env = (false, eval a X.env) :: starEach [b0] X.env := by rfl) (hs2 : starEach [b0] X.env = (false, eval b0 X.env) :: starEach [] X.env := by rfl) (hpl : (backTo pos (starEach [b0] X.env)).any (·.1) = false := by rfl) : PE X (.Call (.Name "isinstance" p) [a, b0] [] pos) (tF ⟨X.K, cl, X.w⟩ E (isiM ty ma)) :=
  f_isi hg hm (by decide +kernel) ha hb (by decide) (by decide) hs1 hs2 hpl
end
end LI

namespace LI
open PySem L2

def mvM (L : Lens) : GM := fun ρ => (L.get ρ).bind fun d => some (d, L.put ρ .gone)
def iceAt (i : Nat) (ρ : List D) : List D := match ρ[i]? with
  | some d => ρ.set i (ice d)
  | none => ρ
def iceM (i : Nat) (m : SM) : SM := fun ρ => (m ρ).map fun r => match r.1 with
  | .nx => (.nx, iceAt i r.2)
  | f => (f, r.2)
section
variable {X : Cx} {cl : Nat → Addr} {E : En} {e a b tg : Expr} {pos : Pos} {L : Lens} {m ma mb : RM}
theorem g_mv (h : PE X e (tPl ⟨X.K, cl, X.w⟩ E L)) : PE X e (tG ⟨X.K, cl, X.w⟩ E (mvM L)) := PE_imp h fun σ H Q ⟨P, S, T, ρ, d, ρ', w, hm, q⟩ => by
  unfold mvM at hm
  cases hd : L.get ρ with
  | none => rw [hd] at hm; cases hm
  | some d1 =>
    rw [hd] at hm
    cases hm
    refine ⟨P, S, T, ρ, d, w, hd, fun v Sd R l => ?_⟩
    have henv := l.put P H .gone fz (.refl P) (fun _ _ _ h => h) rfl
    refine q v H P (fa fz R) Sd ?_ (.refl P) l.rep (fun _ _ _ h => h)
    have hs := l.sum
    refine ⟨henv, fun x => ?_, fun x hx => ?_, fun x hx => ?_, w.ph, w.p0, w.fr, w.np, fun x hx => ?_, w.kp⟩
    · have := w.le x; have := hs x; simp only [fa, fz] at *; omega
    · exact w.out x (by have := hs x; simp only [fa, fz] at *; omega)
    · by_cases z : 0 < T x
      · exact w.th x z
      · exact Rep.there d v Sd l.rep x (by simp only [fa] at hx; omega)
    · exact w.ns x (by have := hs x; simp only [fa, fz] at *; omega)
theorem RepE.iceAt {c : LC} {P H : Hp} : ∀ {ρ : List D} {σ : St} {S : FP} (i : Nat), RepE c P H ρ σ S → ∃ (U R : FP), (∀ a, S a = U a + R a) ∧ (∀ a, 0 < U a → H a ≠ none) ∧
    ∀ (P2 H2 : Hp), Ex P P2 → (∀ a o, 0 < U a → H a = some o → P2 a = some o) → (∀ a o, 0 < R a → H a = some o → H2 a = some o) → RepE c P2 H2 (LI.iceAt i ρ) σ R
  | [], [], S, i, h => ⟨fz, S, fun a => by simp [fz], fun a p => by simp [fz] at p, fun P2 H2 _ _ _ => h⟩
  | d0 :: ρ, v0 :: σ, S, 0, ⟨T, U, r, rs, f⟩ => ⟨T, U, fun a => by rw [f]; rfl, r.there, fun P2 H2 e k1 k2 => by
      refine ⟨fz, U, ?_, rs.mono e ρ σ U k2, by funext a; simp [fa, fz]⟩
      cases v0 with
      | none => obtain ⟨rfl, _⟩ := r; exact ⟨rfl, rfl⟩
      | some v => exact Rep.ice e d0 v T k1 r⟩
  | d0 :: ρ, v0 :: σ, S, i + 1, ⟨T, T2, r, rs, f⟩ => by
    obtain ⟨U, R, h1, h0, h2⟩ := RepE.iceAt i rs
    refine ⟨U, fa T R, fun a => by have := h1 a; rw [f]; simp only [fa]; omega, h0, fun P2 H2 e k1 k2 => ?_⟩
    have := h2 P2 H2 e k1 (fun a o z1 z2 => k2 a o (by simp only [fa]; omega) z2)
    have e2 : LI.iceAt (i + 1) (d0 :: ρ) = d0 :: LI.iceAt i ρ := by
      simp only [LI.iceAt, List.getElem?_cons_succ]
      cases ρ[i]? <;> rfl
    rw [e2]
    exact ⟨T, R, RepO.mono e (fun a o z1 z2 => k2 a o (by simp only [fa]; omega) z2) r, this, rfl⟩
  | [], _ :: _, _, _, h => h.elim
  | _ :: _, [], _, _, h => h.elim
theorem Wd.iceAt {c : LC} {P H : Hp} {S T : FP} {σ : St} {ρ : List D} (w : Wd c E P S T σ H ρ) (i : Nat) : ∃ P' S', Wd c E P' S' T σ H (LI.iceAt i ρ) ∧ Ex P P' := by
  obtain ⟨U, R, h1, h0, h2⟩ := RepE.iceAt i w.env
  have hP : ∀ a, 0 < U a → P a = none := fun a z => w.out a (by have := h1 a; omega)
  have ex : Ex P (fun a => if 0 < U a then H a else P a) := fun a o z => by
    by_cases hu : 0 < U a
    · rw [hP a hu] at z; cases z
    · simp [hu, z]
  refine ⟨fun a => if 0 < U a then H a else P a, R, ⟨h2 _ H ex (fun a o z1 z2 => by simp [z1, z2]) (fun _ _ _ h => h), fun a => ?_, fun a z => ?_, w.th, fun a o z => ?_, w.p0.trans ex, w.fr, fun a z => ?_, fun a z => w.ns a (by have := h1 a; omega), w.kp⟩, ex⟩
  · have := w.le a; have := h1 a; omega
  · have l := w.le a; have s := h1 a
    have hu : ¬ 0 < U a := by omega
    simp only [hu, if_false]
    exact w.out a (by omega)
  · by_cases hu : 0 < U a
    · simpa [hu] using z
    · exact w.ph a o (by simpa [hu] using z)
  · by_cases hu : 0 < U a
    · exact .inr (w.ns a (by have := h1 a; omega))
    · exact w.np a (by simpa [hu] using z)
theorem s_seqI (i : Nat) {st : Stmt} {m : SM} (h : PS X st (tS ⟨X.K, cl, X.w⟩ E m)) : PS X st (tS ⟨X.K, cl, X.w⟩ E (iceM i m)) := PS_imp h fun D σ H ⟨P, S, ρ, fl, ρ', w, hm, q⟩ => by
  unfold iceM at hm
  cases eg : m ρ with
  | none => rw [eg] at hm; cases hm
  | some r =>
    obtain ⟨f1, ρ1⟩ := r
    rw [eg] at hm
    refine ⟨P, S, ρ, f1, ρ1, w, eg, ?_⟩
    cases f1 with
    | nx =>
      cases hm
      intro σ' H' P' S' w' x
      obtain ⟨P2, S2, w2, e2⟩ := w'.iceAt i
      exact q σ' H' P2 S2 w2 (x.trans e2)
    | rt d => cases hm; exact q
    | bk => cases hm; exact q
    | ct => cases hm; exact q
    | ex n fs es => cases hm; exact q

def enumFrom (n : Nat) : List D → List D
  | [] => []
  | d :: ds => .tup [.int (n : Int), d] :: enumFrom (n + 1) ds
def lstD : D → Option (List D)
  | .lst false ds => if frzL ds = true then some ds else none
  | .scr ns => some (ns.map .int)
  | _ => none
def enumM (m : RM) : AM := fun ρ => (m ρ).bind fun d => (lstD d).map (enumFrom 0)
def zipD : List D → List D → List D
  | a :: as, b :: bs => .tup [a, b] :: zipD as bs
  | _, _ => []
def zipM (m1 m2 : RM) : AM := fun ρ => (m1 ρ).bind fun d1 => (m2 ρ).bind fun d2 => (lstD d1).bind fun a => (lstD d2).map fun b => zipD a b
def revM (m : RM) : AM := fun ρ => (m ρ).bind fun d => (lstD d).map List.reverse
theorem enumFrom_get : ∀ (ds : List D) (n i : Nat) (d : D), ds[i]? = some d → (enumFrom n ds)[i]? = some (.tup [.int ((n + i : Nat) : Int), d])
  | [], n, i, d, h => by simp at h
  | d0 :: ds, n, 0, d, h => by simp at h; subst h; rfl
  | d0 :: ds, n, i + 1, d, h => by
    have := enumFrom_get ds (n + 1) i d (by simpa using h)
    simp only [enumFrom, List.getElem?_cons_succ, this]
    congr 4; omega
theorem enumFrom_len : ∀ (ds : List D) (n : Nat), (enumFrom n ds).length = ds.length
  | [], n => rfl
  | d :: ds, n => by simp [enumFrom, enumFrom_len ds]
theorem zipD_get : ∀ (as bs : List D) (i : Nat) (a b : D), as[i]? = some a → bs[i]? = some b → (zipD as bs)[i]? = some (.tup [a, b])
  | [], bs, i, a, b, h, _ => by simp at h
  | a0 :: as, [], i, a, b, _, h => by simp at h
  | a0 :: as, b0 :: bs, 0, a, b, h1, h2 => by simp at h1 h2; subst h1; subst h2; rfl
  | a0 :: as, b0 :: bs, i + 1, a, b, h1, h2 => by
    simpa [zipD] using zipD_get as bs i a b (by simpa using h1) (by simpa using h2)
theorem zipD_len : ∀ (as bs : List D), (zipD as bs).length = min as.length bs.length
  | [], bs => by simp [zipD]
  | a :: as, [] => by simp [zipD]
  | a :: as, b :: bs => by simp [zipD, zipD_len as bs]
theorem lst_sq {c : LC} {P H : Hp} {d : D} {ds : List D} {v : V} {U : FP} (h : lstD d = some ds) (r : Rep c P H d v U) : ∃ p xs, v = .ref p ∧ SqL c.K P p xs ∧ ∀ H', RepL c P H' ds xs fz := by
  unfold lstD at h
  split at h
  · split at h
    · rename_i hf
      cases h
      obtain ⟨p, xs, e1, hp, rl⟩ := r
      have z := RepL.frz0 _ xs _ hf rl
      subst z
      exact ⟨p, xs, e1, .inl (.inl hp), fun _ => repL_h rl⟩
    · cases h
  · cases h
    obtain ⟨p, e1, hp, _⟩ := r
    exact ⟨p, _, e1, hp, fun _ => repL_ints _⟩
  · cases h
theorem pair_gr {c : LC} {P H H3 : Hp} {T : Addr} {x y : V} {d1 d2 : D} (ph : Ex P H) (hT : H T = none) (e : H3 = upd H T (.tup [x, y])) (r1 : Rep c P H d1 x fz) (r2 : Rep c P H d2 y fz) :
    ∃ P3, Gr P H P3 H3 ∧ Rep c P3 H3 (.tup [d1, d2]) (.ref T) fz := by
  subst e
  have hP := none_of ph hT
  have eP : Ex P (upd P T (.tup [x, y])) := fun a o z => by rw [upd_ne (ne_of_none z hP)]; exact z
  refine ⟨upd P T (.tup [x, y]), ⟨eP, fun a o z => by rw [upd_ne (ne_of_none z hT)]; exact z, fun a o z => ?_, fun a z => ?_⟩, T, [x, y], rfl, .inl (.inl upd_same), x, [y], fz, fz, rfl, ?_, ⟨y, [], fz, fz, rfl, ?_, ⟨rfl, rfl⟩, (fa_fz fz).symm⟩, (fa_fz fz).symm⟩
  · by_cases q : a = T
    · subst q; rw [upd_same] at z ⊢; exact z
    · rw [upd_ne q] at z ⊢; exact ph a o z
  · by_cases q : a = T
    · subst q; exact .inr hT
    · rw [upd_ne q] at z; exact .inl z
  · exact Rep.mono eP d1 x fz (fun a o z _ => by simp [fz] at z) r1
  · exact Rep.mono eP d2 y fz (fun a o z _ => by simp [fz] at z) r2
theorem rep_ph {c : LC} {P P2 H H2 : Hp} {d : D} {x : V} (e : Ex P P2) (r : Rep c P H d x fz) : Rep c P2 H2 d x fz := Rep.mono e d x fz (fun a o z _ => by simp [fz] at z) r
theorem i_enum {elts : List Expr} {kk : Nat} {p tpos : Pos} (hg : Gl X "enumerate") (hm : X.mg "enumerate" = none) (h : PE X e (tR ⟨X.K, cl, X.w⟩ E m)) (hs : starEach [e] X.env = (false, eval e X.env) :: starEach [] X.env := by rfl) :
    PI X (.Tuple elts kk tpos) (.Call (.Name "enumerate" p) [e] [] pos) (tI ⟨X.K, cl, X.w⟩ E (enumM m)) := PI_imp (pi_enum hg hm (a_cons h a_nil hs) hs) fun σ H R ⟨P, S, T, ρ, ds, w, hm, q⟩ => by
  unfold enumM at hm
  cases ea : m ρ with
  | none => rw [ea] at hm; cases hm
  | some d =>
    rw [ea, Option.bind_some] at hm
    cases el : lstD d with
    | none => rw [el] at hm; cases hm
    | some es =>
      rw [el] at hm
      cases hm
      refine ⟨P, S, T, ρ, [d], w, by simp [consM, nilM, ea], fun vs H1 P1 U1 g1 ⟨y, ys, T1, T2, e1, r1, r2, f⟩ => ?_⟩
      obtain ⟨p, xs, e2, hp, rl⟩ := lst_sq el r1
      refine ⟨p, xs, by rw [e1, e2, r2.1], sql_mono g1.ph hp, q _ H1 P1 g1 ⟨_, _, by rw [enumFrom_len, (rl H1).length]; exact walk_enum (xs := xs), fun P2 H2 e1 e2 => sql_mono e2 (sql_mono e1 hp), fun i P2 H2 x H3 e1 e2 hi y => ?_⟩⟩
      obtain ⟨T, x1, y1, h1, h2, h3, h4, h5⟩ := y
      cases h4
      obtain ⟨d1, k1, k2⟩ := rep_get0 (rl H2) h5
      obtain ⟨P3, g3, r3⟩ := pair_gr (c := ⟨X.K, cl, X.w⟩) (d1 := .int ((0 + i : Nat) : Int)) e2 h2 h3 ⟨by simp, rfl⟩ (rep_ph (H2 := H2) e1 k2)
      exact ⟨P3, _, g3, enumFrom_get es 0 i d1 k1, h1 ▸ r3⟩
theorem i_zip {e2 : Expr} {m2 : RM} {elts : List Expr} {kk : Nat} {p tpos : Pos} (hg : Gl X "zip") (hm : X.mg "zip" = none) (h : PE X e (tR ⟨X.K, cl, X.w⟩ E m)) (h2 : PE X e2 (tR ⟨X.K, cl, X.w⟩ E m2))
    (hs : starEach [e, e2] X.env = (false, eval e X.env) :: starEach [e2] X.env := by rfl) (hpl : (backTo pos (starEach [e2] X.env)).any (·.1) = false := by rfl) (hs2 : starEach [e2] X.env = (false, eval e2 X.env) :: starEach [] X.env := by rfl) :
    PI X (.Tuple elts kk tpos) (.Call (.Name "zip" p) [e, e2] [] pos) (tI ⟨X.K, cl, X.w⟩ E (zipM m m2)) := PI_imp (pi_zip hg hm (a_cons h (a_cons h2 a_nil hs2) hs) hs hpl) fun σ H R ⟨P, S, T, ρ, ds, w, hm, q⟩ => by
  unfold zipM at hm
  cases ea : m ρ with
  | none => rw [ea] at hm; cases hm
  | some d =>
    cases eb : m2 ρ with
    | none => rw [ea, eb] at hm; cases hm
    | some d' =>
      rw [ea, eb, Option.bind_some, Option.bind_some] at hm
      cases el : lstD d with
      | none => rw [el] at hm; cases hm
      | some es =>
        cases el2 : lstD d' with
        | none => rw [el, el2] at hm; cases hm
        | some es2 =>
          rw [el, el2] at hm
          cases hm
          refine ⟨P, S, T, ρ, [d, d'], w, by simp [consM, nilM, ea, eb], fun vs H1 P1 U1 g1 ⟨y, ys, T1, T2, e1, r1, ⟨y', ys', T3, T4, e1', r1', r2, f'⟩, f⟩ => ?_⟩
          obtain ⟨p, xs, e2, hp, rl⟩ := lst_sq el r1
          obtain ⟨p', xs', e2', hp', rl'⟩ := lst_sq el2 r1'
          refine ⟨p, p', xs, xs', by rw [e1, e2, e1', e2', r2.1], sql_mono g1.ph hp, sql_mono g1.ph hp', q _ H1 P1 g1 ⟨_, _, walk_zip (xs := xs) (ys := xs') (by rw [zipD_len, (rl H1).length, (rl' H1).length]), fun P2 H2 e1 e2 => ⟨sql_mono e2 (sql_mono e1 hp), sql_mono e2 (sql_mono e1 hp')⟩, fun i P2 H2 x H3 e1 e2 hi y => ?_⟩⟩
          obtain ⟨T, x1, y1, h1, h2, h3, h4, h5⟩ := y
          obtain ⟨d1, k1, k2⟩ := rep_get0 (rl H2) h4
          obtain ⟨d2, k1', k2'⟩ := rep_get0 (rl' H2) h5
          obtain ⟨P3, g3, r3⟩ := pair_gr (c := ⟨X.K, cl, X.w⟩) e2 h2 h3 (rep_ph (H2 := H2) e1 k2) (rep_ph (H2 := H2) e1 k2')
          exact ⟨P3, _, g3, zipD_get es es2 i d1 d2 k1 k1', h1 ▸ r3⟩
end
def IterV (c : LC) (P H : Hp) (J : It) (ds : List D) : Prop := ∃ (G : Hp → Prop) (Y : Nat → Hp → V → Hp → Prop), Walk J ds.length G Y ∧ (∀ P2 H2, Gr P H P2 H2 → G H2) ∧
  ∀ i P2 H2 x H3, Gr P H P2 H2 → i < ds.length → Y i H2 x H3 → ∃ P3 d, Gr P2 H2 P3 H3 ∧ ds[i]? = some d ∧ Rep c P3 H3 d x fz
def tIV (c : LC) (E : En) (m : AM) : TI := fun σ H R => ∃ P S T ρ ds, Wd c E P S T σ H ρ ∧ m ρ = some ds ∧ ∀ J H' P', Gr P H P' H' → IterV c P' H' J ds → R J H'
def itemsV : D → Option (List D)
  | .lst _ ds => if frzL ds = true then some ds else none
  | d => itemsD d
def itV (m : RM) : AM := fun ρ => (m ρ).bind itemsV
section
variable {X : Cx} {cl : Nat → Addr} {E : En} {e a b tg : Expr} {pos : Pos} {m ma mb : RM}
theorem i_up {ms : AM} (h : PI X tg e (tI ⟨X.K, cl, X.w⟩ E ms)) : PI X tg e (tIV ⟨X.K, cl, X.w⟩ E ms) := PI_imp h fun σ H R ⟨P, S, T, ρ, ds, w, hm, q⟩ =>
  ⟨P, S, T, ρ, ds, w, hm, fun J H1 P1 g1 ⟨G, Y, wk, hG, hY⟩ => q J H1 P1 g1 ⟨G, Y, wk, fun P2 H2 g2 => hG P2 H2 g2.p g2.ph, fun i P2 H2 x H3 g2 hi y => hY i P2 H2 x H3 g2.p g2.ph hi y⟩⟩
theorem i_seqV (h : PE X e (tR ⟨X.K, cl, X.w⟩ E m)) : PI X tg e (tIV ⟨X.K, cl, X.w⟩ E (itV m)) := by
  refine PI_imp (PI_or (pi_list h) (i_up (i_seq h))) fun σ H R ⟨P, S, T, ρ, ds, w, hm, q⟩ => ?_
  unfold itV at hm
  cases ea : m ρ with
  | none => rw [ea] at hm; cases hm
  | some d =>
    rw [ea] at hm
    replace hm : itemsV d = some ds := hm
    cases d with
    | lst o es =>
      replace hm : (if frzL es = true then some es else none) = some ds := hm
      split at hm
      · rename_i hf
        cases hm
        refine .inl ⟨P, S, T, ρ, _, w, ea, fun v H1 P1 U1 g1 r1 => ?_⟩
        obtain ⟨p, xs, T', e1, hp, rl, _⟩ := lst_heap g1.ph r1
        have z := RepL.frz0 _ xs _ hf rl
        subst z
        refine ⟨p, e1, ⟨xs, .inl (.inl hp)⟩, q _ H1 P1 g1 ⟨_, _, by rw [rl.length]; exact walk_list (K := X.K) (a := p) (xs := xs), fun P2 H2 g2 => Or.inl (Or.inl (g2.h _ _ hp)), fun i P2 H2 x H3 g2 hi y => ?_⟩⟩
        obtain ⟨rfl, hx⟩ := y
        obtain ⟨d, h1, h2⟩ := rep_get0 (repL_h (H' := H3) rl) hx
        exact ⟨P2, d, .refl g2.ph, h1, Rep.mono g2.p d x fz (fun a o z _ => by simp [fz] at z) h2⟩
      · cases hm
    | _ => exact .inr ⟨P, S, T, ρ, ds, w, by unfold itM; rw [ea]; exact hm, q⟩
theorem lcV_run {c : LC} {vs tl : List Nat} {f : TgM} {mc : BM} {me : RM} {ms : AM} (ht : ∀ j ∈ tl, j ∈ vs) (hk : ∀ j ∈ vs, E.kp[j]? ≠ some true) {σ : St} {H : Hp} {Q : VK} (h : tF c E (compM vs f mc me ms) σ H Q) :
    tLc (tIV c E ms) (tPG c E tl f) (tTs c E mc) (tR c E me) vs σ H Q := by
  obtain ⟨P, S, T, ρ, d, w, hm, q⟩ := h
  unfold compM at hm
  cases es : ms ρ with
  | none => rw [es] at hm; cases hm
  | some ds =>
    rw [es, Option.bind_some] at hm
    split at hm
    · rename_i hlim
      cases ec : compL f mc me (goneAt ρ vs) ds with
      | none => rw [ec] at hm; cases hm
      | some ys =>
        rw [ec] at hm
        cases hm
        refine ⟨P, S, T, ρ, ds, w, es, fun J H1 P1 g1 io => ?_⟩
        intro Dl hD
        obtain ⟨G, Y, wk, hG, hY⟩ := io
        have hP1 : P1 Dl = none := none_of g1.ph hD
        -- the invariant
        refine lc_it wk (fun i Hh => ∃ P2 zs acc, compL f mc me (goneAt ρ vs) (ds.take i) = some zs ∧ Gr P1 H1 P2 Hh ∧ P2 Dl = none ∧ Hh Dl = some (.lst acc) ∧ RepL c P2 Hh zs acc fz) ?_ ?_ ?_ ?_
        · exact ⟨P1, [], [], rfl, ⟨.refl _, ex_new hD, g1.ph.trans (ex_new hD), fun a z => .inl z⟩, hP1, upd_same, rfl, rfl⟩
        · rintro i Hh hi ⟨P2, zs, acc, h1, g2, _, _, _⟩
          exact hG P2 Hh g2
        · rintro i x Hh H3 hi ⟨P2, zs, acc, h1, g2, hD2, hDl, rl⟩ y
          obtain ⟨P3, d, g3, hd, rd⟩ := hY i P2 Hh x H3 g2 hi y
          obtain ⟨zs', ρ1, k, t1, t2, t3, t4, t5⟩ := compL_turn ec hd
          rw [h1] at t1
          cases t1
          obtain ⟨S3, w3⟩ := (((w.grow g1).grow g2).grow g3).wipe vs hk
          have w3' : Wd c E P3 S3 (fa T fz) (L2.wipe σ vs) H3 (goneAt ρ vs) := by rw [fa_fz]; exact w3
          have hD3 : P3 Dl = none := by
            cases z : P3 Dl with
            | none => rfl
            | some o =>
              rcases g3.new Dl (by rw [z]; simp) with q' | q'
              · exact absurd hD2 q'
              · rw [hDl] at q'; cases q'
          refine ⟨P3, S3, T, fz, _, d, ρ1, w3', rd, t2, fun σ' S' w4 l4 k4 => ⟨?_, P3, S', T, ρ1, k, w4, t3, fun H4 P4 g4 => ?_⟩⟩
          · rw [wipe_eq (vs := vs) l4 fun j hj => k4 j fun z => hj (ht j z)]
            exact wipe_wipe σ vs
          · have hD4 : P4 Dl = none := by
              cases z : P4 Dl with
              | none => rfl
              | some o =>
                rcases g4.new Dl (by rw [z]; simp) with q' | q'
                · exact absurd hD3 q'
                · rw [g3.h _ _ hDl] at q'; cases q'
            cases k with
            | true =>
              obtain ⟨y', e1, e2, e3⟩ := t4 rfl
              refine iteT ⟨P4, S', T, ρ1, y', w4.grow g4, e1, fun v H5 P5 U5 g5 r5 => ?_⟩
              have hU := Rep.frz0 y' v U5 e2 r5
              subst hU
              have hD5 : P5 Dl = none := by
                cases z : P5 Dl with
                | none => rfl
                | some o =>
                  rcases g5.new Dl (by rw [z]; simp) with q' | q'
                  · exact absurd hD4 q'
                  · rw [g4.h _ _ (g3.h _ _ hDl)] at q'; cases q'
              have gg := ((g2.trans g3).trans g4).trans g5
              have hDl5 : H5 Dl = some (.lst acc) := g5.h _ _ (g4.h _ _ (g3.h _ _ hDl))
              refine ⟨acc, hDl5, ?_, P5, zs ++ [y'], acc ++ [v], e3, ⟨gg.p, fun a o z => ?_, fun a o z => ?_, gg.new⟩, hD5, upd_same, ?_⟩
              · have h2 := compL_len h1
                have h3 := rl.length
                have : zs.length ≤ ds.length := Nat.le_trans h2 (by rw [List.length_take]; omega)
                have : (zs ++ [y']).length ≤ (ds.take (i + 1)).length := compL_len e3
                rw [List.length_append, List.length_take] at this
                have e4 : acc.length < LIM := by
                  simp only [List.length_cons, List.length_nil] at this
                  omega
                exact lim_lt e4
              · by_cases z2 : a = Dl
                · subst z2; rw [hD] at z; cases z
                · rw [upd_ne z2]; exact gg.h a o z
              · by_cases z2 : a = Dl
                · subst z2; rw [hD5] at z; cases z
                · rw [upd_ne z2]; exact g5.ph a o z
              · have r6 := RepL.append (repL_h (H' := upd H5 Dl (.lst (acc ++ [v]))) (((rl.gr g3).gr g4).gr g5)) (show RepL c P5 (upd H5 Dl (.lst (acc ++ [v]))) [y'] [v] fz from ⟨v, [], fz, fz, rfl, Rep.mono (.refl _) y' v fz (fun a o z _ => by simp [fz] at z) r5, ⟨rfl, rfl⟩, (fa_fz fz).symm⟩)
                rwa [fa_fz] at r6
            | false =>
              refine iteF ⟨P4, zs, acc, t5 rfl, (g2.trans g3).trans g4, hD4, g4.h _ _ (g3.h _ _ hDl), (rl.gr g3).gr g4⟩
        · rintro Hh ⟨P2, zs, acc, h1, g2, hD2, hDl, rl⟩
          rw [List.take_length, ec] at h1
          cases h1
          refine q _ Hh P2 (one Dl) (g1.trans g2) ⟨Dl, acc, fz, rfl, hDl, rl, (fa_fz _).symm⟩ one_le fun a z => ?_
          rw [one_pos z]
          refine ⟨?_, hD2⟩
          cases z : H Dl with
          | none => rfl
          | some o => rw [g1.h _ _ z] at hD; cases hD
    · cases hm
theorem f_lcV {elt tg iter : Expr} {ifs : List Expr} {scope : Scope} (own : List (Str × Nat)) {vs : List Nat} {tl : List Nat} {f : TgM} {mc : BM} {me : RM} {ms : AM} (hvs : own.map (·.2) = vs) (hc : X.calm = true) (hN : X.N.Nodup) (hi : PI X tg iter (tIV ⟨X.K, cl, X.w⟩ E ms)) (ok : BlkOk X.N X.env.scope scope own)
    (hg : ∀ (s : Shared) (H : Hp) (C : Addr) (c : List (Str × Addr)) (fp : List Addr), PG (X.blk s H scope (compEnvC scope c C X.env) fp) tg (tPG ⟨X.K, cl, X.w⟩ E tl f)) (ht : ∀ (s : Shared) (H : Hp) (C : Addr) (c : List (Str × Addr)) (fp : List Addr), PTs (X.blk s H scope (compEnvC scope c C X.env) fp) ifs (tTs ⟨X.K, cl, X.w⟩ E mc))
    (he : ∀ (s : Shared) (H : Hp) (C : Addr) (c : List (Str × Addr)) (fp : List Addr), PE (X.blk s H scope (compEnvC scope c C X.env) fp) elt (tR ⟨X.K, cl, X.w⟩ E me)) (h1 : ∀ j ∈ tl, j ∈ vs) (h2 : ∀ j ∈ vs, E.kp[j]? ≠ some true) (hs : ∀ x, foldedSetIterable iter X.env x = pure x := by intro _; rfl) :
    PE X (.ListComp elt [⟨tg, iter, ifs, 0⟩] scope pos) (tF ⟨X.K, cl, X.w⟩ E (compM vs f mc me ms)) := by
  subst hvs
  exact PE_imp (pe_lc hc hN hi ok hg ht he hs) fun _ _ _ h => lcV_run h1 h2 h
end
end LI

namespace LI
open PySem L2

theorem FQ.dK {c : LC} {P H : Hp} {Q : VK} {ks : List Key} {ds : List D} {xs : List V} (h : FQ c P H (.dK true ks ds) Q) (e : Ex P H) (n : ks.length = xs.length) (r : RepL c P H ds xs fz) : ∀ p, H p = none → Q (.ref p) (upd H p (.dK (ks.zip xs))) := fun p hp => by
  refine h _ _ P (one p) ⟨.refl _, ex_new hp, e.trans (ex_new hp), fun _ z => .inl z⟩ ⟨p, xs, fz, rfl, upd_same, n, RepL.mono (.refl _) ds xs fz (fun a o z _ => by simp [fz] at z) r, (fa_fz _).symm⟩ one_le fun a z => ?_
  rw [one_pos z]
  exact ⟨hp, none_of e hp⟩
section
variable {X : Cx} {cl : Nat → Addr} {E : En} {pos : Pos}
def dispM (mk mv : AM) : RM := fun ρ => (mk ρ).bind fun kds => (mv ρ).bind fun vds => (keyDs kds).bind fun ks => if ks.Nodup ∧ frzL vds = true ∧ ks.length ≤ 15 ∧ ks.length = vds.length then some (.dK true ks vds) else none
theorem f_dnew : PE X (.Dict [] [] pos) (tF ⟨X.K, cl, X.w⟩ E (dispM nilM nilM)) := PE_imp pe_dnewK fun σ H Q ⟨P, S, T, ρ, d, w, hm, q⟩ => by
  cases hm
  exact fun p hp => q.dK (ks := []) (ds := []) (xs := []) w.ph rfl ⟨rfl, rfl⟩ p hp
end
end LI

namespace LI
open PySem PySem.Spec PyProof.Rows L2

def Iten (x : Str) : It :=
  ⟨fun i _ => i < x.cps.size, fun i H v H' => ∃ T c, v = .ref T ∧ H T = none ∧ H' = upd H T (.tup [.int (i : Nat), .str ⟨#[c]⟩]) ∧ x.cps[i]? = some c, fun i _ => x.cps.size ≤ i⟩
theorem turn_enumS {P : Program} {w : World} {K : PySem.W.Frag} {elts : List Expr} {kk : Nat} {tpos : Pos} (x : Str) (t : Tok) (ty : String) (hty : ty = "str_ascii_iterator" ∨ ty = "str_iterator") (e it : Addr) :
    Turn P w K (.Tuple elts kk tpos) (Iten x) [e, it] e (fun i h => (∃ old, IsEnum h e it ((i : Nat) : Int) old) ∧ h.IsStrIter it ty x t i ∧ e ≠ it ∧ i ≤ x.cps.size) where
  mem := by simp
  obj := fun i h st b hb => by
    obtain ⟨⟨old, he⟩, ⟨o, ho, hc, hd⟩, _⟩ := st
    have e' : b = e ∨ b = it := by simpa using hb
    rcases e' with z | z
    · rw [z]; exact ⟨_, he, fun v q => nomatch q⟩
    · rw [z]; exact ⟨o, ho, fun v q => by rw [hd] at q; cases q⟩
  keep := fun i h h' st k => let ⟨⟨old, he⟩, ⟨o, ho, r⟩, hne⟩ := st; ⟨⟨old, k e (by simp) _ he⟩, ⟨o, k it (by simp) o ho, r⟩, hne⟩
  item := by
    intro X hP hw hK hc i pins s σ H E I hf st hg
    subst hP hw hK
    obtain ⟨⟨old, he⟩, hit, hne, _⟩ := st
    replace hg : i < x.cps.size := hg
    have hel : e < s.heap.objs.size := Heap.lt_size he
    have hil : it < s.heap.objs.size := by obtain ⟨_, q, _⟩ := hit; exact Heap.lt_size q
    have D : Draws X.prog X.w X.A.in1 it [it] x.cps.size (fun i v => ∃ c u, x.cps[i]? = some c ∧ v = .str ⟨#[c]⟩ u) (fun i h => h.IsStrIter it ty x t i) := by
      rcases hty with q | q
      · rw [q]; exact Draws.strAscii (A := X.A.in1) (I.ok.hd hc) it x t
      · rw [q]; exact Draws.strWide (A := X.A.in1) (I.ok.hd hc) it x t
    refine wpAny_pyNext_enum_itemD D he hit hg hne (by simpa using hne) fun v h' tk hv ho hit' hT hsz hk => ?_
    obtain ⟨c, u, hcx, rfl⟩ := hv
    refine ⟨_, rfl, wpAny_letOwnedTupleGo_enum (s := { s with heap := h', toks := tk + 1 }) ho fun h'' he' sb => ?_⟩
    have hT2 : h''.get? s.heap.objs.size = some { cls := .type "tuple", data := .seq #[.int i tk, .str ⟨#[c]⟩ u] } := (sb.2 _ (Nat.ne_of_gt hel)).trans hT
    have new : ObjOk X.prog X.w (upd H s.heap.objs.size (.tup [.int (i : Nat), .str ⟨#[c]⟩])) h'' s.heap.objs.size (.tup [.int (i : Nat), .str ⟨#[c]⟩]) :=
      ⟨by show 2 ≤ sizeLine; decide, [.int i tk, .str ⟨#[c]⟩ u], .cons ⟨_, rfl⟩ (.cons ⟨_, rfl⟩ .nil), ⟨_, hT2, rfl, _, rfl⟩⟩
    have I1 : Inv X pins σ (upd H s.heap.objs.size (.tup [.int (i : Nat), .str ⟨#[c]⟩])) { s with heap := h'', toks := tk + 1 } :=
      I.turnedNew (ch := [e, it]) (fun b ob hb q => (sb.2 b (fun z => hb (by simp [z]))).trans (hk b ob (fun z => hb (by simp [z])) (fun z => hb (by simp [z])) q)) hf (Nat.le_refl _) new
    obtain ⟨oi, q1, q2⟩ := hit'
    refine ⟨.ref s.heap.objs.size, _, I1, rfl, ⟨_, c, rfl, I.hok.fresh (Nat.le_refl _), rfl, hcx⟩, ⟨⟨.str ⟨#[c]⟩ u, ?_⟩, ⟨oi, (sb.2 it (Ne.symm hne)).trans q1, q2⟩, hne, hg⟩, fun b hb => ?_⟩
    · have e1 : ((i + 1 : Nat) : Int) = (i : Int) + 1 := by omega
      rw [e1]; exact he'
    · have hb' : b < s.heap.objs.size := by
        have e' : b = e ∨ b = it := by simpa using hb
        rcases e' with z | z
        · rw [z]; exact hel
        · rw [z]; exact hil
      rw [upd_ne (Nat.ne_of_lt hb')]
      exact (hf b hb).1
  done := by
    intro X hP hw hK hc i pins s σ H E I hf st hg
    subst hP hw hK
    obtain ⟨⟨old, he⟩, hit, hne, hle⟩ := st
    replace hg : x.cps.size ≤ i := hg
    have hi : i = x.cps.size := Nat.le_antisymm hle hg
    subst hi
    have D : Draws X.prog X.w X.A.in1 it [it] x.cps.size (fun i v => ∃ c u, x.cps[i]? = some c ∧ v = .str ⟨#[c]⟩ u) (fun i h => h.IsStrIter it ty x t i) := by
      rcases hty with q | q
      · rw [q]; exact Draws.strAscii (A := X.A.in1) (I.ok.hd hc) it x t
      · rw [q]; exact Draws.strWide (A := X.A.in1) (I.ok.hd hc) it x t
    obtain ⟨f0, f1, f2, f3, f4, f5⟩ := hf it (by simp)
    exact wpAny_pyNext_enum_endD D he hit fun h' eb => ⟨rfl, I.turned (t' := s.toks) (fun b o hb q => eb b o hb q) f0 f1 f3 f4 f5⟩
  self := fun A i s Q E st h => let ⟨⟨_, he⟩, _⟩ := st; wpAny_pyIter_enum he h
def iEnumS (ta : TA) : TI := fun σ H R => ta σ H fun vs H1 => ∃ x, vs = [.str x] ∧ R (Iten x) H1
theorem pi_enumS {X : Cx} {e : Expr} {ta : TA} {p pos tpos : Pos} {elts : List Expr} {kk : Nat} (hg : Gl X "enumerate") (hm : X.mg "enumerate" = none) (ha : PA X [e] ta) (hs : starEach [e] X.env = [(false, eval e X.env)] := by rfl) :
    PI X (.Tuple elts kk tpos) (.Call (.Name "enumerate" p) [e] [] pos) (iEnumS ta) := by
  refine ⟨fun pins s σ H R I h => ?_⟩
  refine Call_ (ld_blt I hg hm boot_enumerate (PyProof.Rows.callWith_type1 (thn (ha.run pos pins s σ H _ I h) fun us s1 ⟨vs, H1, I1, r1, q1⟩ => ?_) hs rfl))
  obtain ⟨x, ex, q⟩ := q1
  subst ex
  cases r1 with
  | cons r rr =>
    cases rr
    obtain ⟨t, rfl⟩ := r
    refine call_enumerate_str fun h' he hit hsz hk => wpAny_pyIter_enum he ?_
    have I2 : Inv X pins σ H1 { s1 with heap := h' } := I1.kept (t' := s1.toks) hk
    have hty : strIterType x = "str_ascii_iterator" ∨ strIterType x = "str_iterator" := by
      unfold strIterType
      split
      · exact .inl rfl
      · exact .inr rfl
    refine ⟨s1.heap.objs.size + 1, [s1.heap.objs.size + 1, s1.heap.objs.size], _, _, H1, rfl, I2, turn_enumS x t _ hty (s1.heap.objs.size + 1) s1.heap.objs.size, ⟨⟨.none, he⟩, hit, Nat.succ_ne_self _, Nat.zero_le _⟩, fun b hb => ?_, q⟩
    have e' : b = s1.heap.objs.size + 1 ∨ b = s1.heap.objs.size := by simpa using hb
    have hle : s1.heap.objs.size ≤ b := by
      rcases e' with z | z
      · rw [z]; exact Nat.le_add_right _ _
      · rw [z]; exact Nat.le_refl _
    exact I1.fpOk hle (I1.hok.fresh hle)
theorem walk_enumS {x : Str} : Walk (Iten x) x.cps.size (fun _ => True) (fun i H v H' => ∃ T c, v = .ref T ∧ H T = none ∧ H' = upd H T (.tup [.int (i : Nat), .str ⟨#[c]⟩]) ∧ x.cps[i]? = some c) :=
  ⟨fun _ _ hi _ => hi, fun _ _ => Nat.le_refl _, fun _ _ _ _ _ _ y => y⟩
def enumSM (m : RM) : AM := fun ρ => (m ρ).bind fun d => match d with
  | .str s => some (enumFrom 0 (strsD s))
  | d => (lstD d).map (enumFrom 0)
section
variable {X : Cx} {cl : Nat → Addr} {E : En} {e a b tg : Expr} {pos : Pos} {m : RM}
theorem i_enumS {elts : List Expr} {kk : Nat} {p tpos : Pos} (hg : Gl X "enumerate") (hm : X.mg "enumerate" = none) (h : PE X e (tR ⟨X.K, cl, X.w⟩ E m)) (hs : starEach [e] X.env = (false, eval e X.env) :: starEach [] X.env := by rfl) :
    PI X (.Tuple elts kk tpos) (.Call (.Name "enumerate" p) [e] [] pos) (tI ⟨X.K, cl, X.w⟩ E (enumSM m)) := PI_imp (PI_or (pi_enumS hg hm (a_cons h a_nil hs) hs) (i_enum hg hm h hs)) fun σ H R ⟨P, S, T, ρ, ds, w, hm, q⟩ => by
  unfold enumSM at hm
  cases ea : m ρ with
  | none => rw [ea] at hm; cases hm
  | some d =>
    rw [ea, Option.bind_some] at hm
    cases d with
    | str s =>
      cases hm
      refine .inl ⟨P, S, T, ρ, [.str s], w, by simp [consM, nilM, ea], fun vs H1 P1 U1 g1 ⟨y, ys, T1, T2, e1, r1, r2, f⟩ => ?_⟩
      refine ⟨⟨s.toArray⟩, by rw [e1, r1.1, r2.1], q _ H1 P1 g1 ⟨_, _, by rw [enumFrom_len, show (strsD s).length = (⟨s.toArray⟩ : Str).cps.size by simp [strsD]]; exact walk_enumS, fun _ _ _ _ => True.intro, fun i P2 H2 x H3 e1 e2 hi y => ?_⟩⟩
      obtain ⟨T, c, h1, h2, h3, h4⟩ := y
      have hk : s[i]? = some c := by simpa using h4
      obtain ⟨P3, g3, r3⟩ := pair_gr (c := ⟨X.K, cl, X.w⟩) (d1 := .int ((0 + i : Nat) : Int)) (d2 := .str [c]) e2 h2 h3 ⟨by simp, rfl⟩ ⟨rfl, rfl⟩
      exact ⟨P3, _, g3, enumFrom_get (strsD s) 0 i (.str [c]) (by simp [strsD, hk]), h1 ▸ r3⟩
    | _ => exact .inr ⟨P, S, T, ρ, ds, w, by unfold enumM; rw [ea]; exact hm, q⟩
end
end LI

namespace LI
open PySem PySem.Spec PyProof.Rows L2

def KdVals (P : Params) : List DictEntry → List (List Nat × List Nat) → Prop
  | [], [] => True
  | e :: es, kv :: kvs => (∃ t, e.key = .str ⟨kv.1.toArray⟩ t ∧ e.hash = PyData.keyHash P ⟨kv.1.toArray⟩) ∧ (∃ t, e.val = .str ⟨kv.2.toArray⟩ t) ∧ KdVals P es kvs
  | _, _ => False
theorem KdVals.lit {P : Params} : ∀ {es : List DictEntry} {kvs : List (List Nat × List Nat)}, KdVals P es kvs → PySem.W.KeysLit P es
  | [], [], _ => trivial
  | e :: es, kv :: kvs, ⟨⟨t, h1, h2⟩, _, h3⟩ => ⟨⟨_, t, h1, h2⟩, h3.lit⟩
  | [], _ :: _, h => h.elim
  | _ :: _, [], h => h.elim
def kdGet : List (List Nat × List Nat) → List Nat → Option (List Nat)
  | [], _ => none
  | kv :: kvs, z => if kv.1 = z then some kv.2 else kdGet kvs z
theorem kd_find {P : Params} (z : List Nat) : ∀ {es : List DictEntry} {kvs : List (List Nat × List Nat)}, KdVals P es kvs → (match kdGet kvs z with
    | some v => ∃ e t, es.find? (fun e => e.key.isStr ⟨z.toArray⟩) = some e ∧ e.val = .str ⟨v.toArray⟩ t
    | none => es.find? (fun e => e.key.isStr ⟨z.toArray⟩) = none) ∧ es.any (fun e => e.refKey) = false
  | [], [], _ => ⟨rfl, rfl⟩
  | e :: es, kv :: kvs, ⟨⟨t, h1, h2⟩, ⟨t2, h4⟩, h3⟩ => by
    obtain ⟨i1, i2⟩ := kd_find z h3
    have hs : e.key.isStr ⟨z.toArray⟩ = decide (kv.1 = z) := by
      rw [h1]
      show ((⟨kv.1.toArray⟩ : Str) == ⟨z.toArray⟩) = _
      rw [str_beq, Bool.eq_iff_iff]; simp
    refine ⟨?_, ?_⟩
    · unfold kdGet
      by_cases h : kv.1 = z
      · rw [if_pos h]
        exact ⟨e, t2, by rw [List.find?_cons_of_pos (by rw [hs]; simp [h])], h4⟩
      · rw [if_neg h, List.find?_cons_of_neg (by rw [hs]; simp [h])]
        exact i1
    · rw [List.any_cons, i2, Bool.or_false]
      unfold DictEntry.refKey
      rw [h1]
  | [], _ :: _, h => h.elim
  | _ :: _, [], h => h.elim
structure GlKd (K : PySem.W.Frag) (mg : Str → Option Value) (w : World) (x : Str) (kvs : List (List Nat × List Nat)) : Prop where
  ex : ∃ d es n, mg x = some (.ref d) ∧ K.lookup d = some ⟨.type "dict", none, .dict es n, #[]⟩ ∧ (d == sysModules) = false ∧ KdVals w.params es.toList kvs
theorem GlKd.get {K : PySem.W.Frag} {mg : Str → Option Value} {w : World} {x : Str} {kvs : List (List Nat × List Nat)} (G : GlKd K mg w x kvs) : ∃ d es n, mg x = some (.ref d) ∧ KDict K w d es n ∧ ∀ z : List Nat, match kdGet kvs z with
    | some v => ∃ t, PySem.W.nsIn K d ⟨z.toArray⟩ = some (some (.str ⟨v.toArray⟩ t))
    | none => PySem.W.nsIn K d ⟨z.toArray⟩ = some none := by
  obtain ⟨d, es, n, h1, h2, h3, h4⟩ := G.ex
  refine ⟨d, es, n, h1, ⟨h2, h4.lit, h3⟩, fun z => ?_⟩
  obtain ⟨i1, i2⟩ := kd_find z h4
  unfold PySem.W.nsIn
  rw [h2]
  cases hz : kdGet kvs z with
  | some v =>
    rw [hz] at i1
    obtain ⟨e, t, e1, e2⟩ := i1
    refine ⟨t, ?_⟩
    show (match es.toList.find? (fun e => e.key.isStr ⟨z.toArray⟩) with
      | some e => some (some e.val)
      | none => if es.toList.any (fun e => e.refKey) = true then none else some none) = _
    rw [e1, ← e2]
  | none =>
    rw [hz] at i1
    show (match es.toList.find? (fun e => e.key.isStr ⟨z.toArray⟩) with
      | some e => some (some e.val)
      | none => if es.toList.any (fun e => e.refKey) = true then none else some none) = _
    rw [i1, i2]; rfl
def inK (kvs : List (List Nat × List Nat)) : D → Option D
  | .str z => some (.bl (kdGet kvs z).isSome)
  | _ => none
def ninK (kvs : List (List Nat × List Nat)) : D → Option D
  | .str z => some (.bl (!(kdGet kvs z).isSome))
  | _ => none
def ixK (kvs : List (List Nat × List Nat)) : D → Option D
  | .str z => (kdGet kvs z).map .str
  | _ => none
theorem ix_kd {X : Cx} {d : Addr} {es : Array DictEntry} {n : Nat} (D : KDict X.K X.w d es n) : IxR X (fun x y H Q => ∃ (z : Str) (u0 : Value) (v0 : V), x = .ref d ∧ y = .str z ∧ PySem.W.nsIn X.K d z = some (some u0) ∧ RelV v0 u0 ∧ Q v0 H) := by
  intro value slice pins s σ H x y v u Q I rx ry h hs
  have hx := h
  obtain ⟨z, u0, v0, ex, ey, e, r, q⟩ := hx
  have hT := kd_type D I
  subst ex
  cases rx
  exact tail_any hT PySem.F.slot_dict_getitem.lookup (op_item_kd D pins s σ H (.ref d) y (.ref d) u Q I rfl ry h) hs
section
variable {X : Cx} {cl : Nat → Addr} {E : En} {e a b : Expr} {pos p : Pos} {m : RM} {x : Str} {kvs : List (List Nat × List Nat)}
theorem m1_some {f : D → Option D} {ρ : List D} {d : D} (h : m1 f m ρ = some d) : ∃ da, m ρ = some da ∧ f da = some d := by
  unfold m1 at h
  cases ea : m ρ with
  | none => rw [ea] at h; cases h
  | some da => rw [ea] at h; exact ⟨da, rfl, h⟩
theorem f_ixK (hb : PE X b (tR ⟨X.K, cl, X.w⟩ E m)) (hg : Gl X x) (G : GlKd X.K X.mg X.w x kvs) (hs : PlainIx b := by intro _ _; rfl) (hd : (x == ("__debug__" : Str)) = false := by decide) : PE X (.Subscript (.Name x p) b pos) (tF ⟨X.K, cl, X.w⟩ E (m1 (ixK kvs) m)) := by
  obtain ⟨d, es, n, h1, D, hget⟩ := G.get
  refine PE_imp (pe_ix (ix_kd D) (pe_glob (v := .ref d) (u := .ref d) hg h1 rfl hd) hb hs) fun σ H Q ⟨P, S, T, ρ, dd, w, hm, q⟩ => ?_
  obtain ⟨da, e1, e2⟩ := m1_some hm
  cases da with
  | str z =>
    replace e2 : (kdGet kvs z).map LI.D.str = some dd := e2
    refine ⟨P, S, T, ρ, .str z, w, e1, fun v H1 P1 U1 g1 r1 => ?_⟩
    have hz := hget z
    cases hk : kdGet kvs z with
    | some u =>
      rw [hk] at hz e2
      cases e2
      obtain ⟨t, hz⟩ := hz
      exact ⟨_, _, .str ⟨u.toArray⟩, rfl, r1.1, hz, ⟨t, rfl⟩, (q.grow g1).flat g1.ph ⟨rfl, rfl⟩⟩
    | none => rw [hk] at e2; cases e2
  | _ => cases e2
theorem t_inK (ha : PE X a (tR ⟨X.K, cl, X.w⟩ E m)) (hg : Gl X x) (G : GlKd X.K X.mg X.w x kvs) (hd : (x == ("__debug__" : Str)) = false := by decide) (hm : behindInMarks .In (Expr.Name x p) = false := by rfl) : PT X (.Compare a [.In] [.Name x p] pos) (tT ⟨X.K, cl, X.w⟩ E (bM (m1 (inK kvs) m))) := by
  obtain ⟨d, es, n, h1, D, hget⟩ := G.get
  refine t_test (m := m1 (inK kvs) m) (pt_cmpR (op_in_kd D) ha (pe_glob (v := .ref d) (u := .ref d) hg h1 rfl hd) hm) fun σ H Q ⟨P, S, T, ρ, dd, w, hm, q⟩ => ?_
  obtain ⟨da, e1, e2⟩ := m1_some hm
  cases da with
  | str z =>
    cases e2
    refine ⟨P, S, T, ρ, .str z, w, e1, fun v H1 P1 U1 g1 r1 => ?_⟩
    have hz := hget z
    have fin : Q (.bl (kdGet kvs z).isSome) H1 := (q.grow g1).flat g1.ph ⟨rfl, rfl⟩
    cases hk : kdGet kvs z with
    | some u =>
      rw [hk] at hz fin
      obtain ⟨t, hz⟩ := hz
      exact ⟨_, _, r1.1, rfl, hz, fin⟩
    | none =>
      rw [hk] at hz fin
      exact ⟨_, _, r1.1, rfl, hz, fin⟩
  | _ => cases e2
end
end LI

namespace LI
open PySem L2
def binVG (f : D → D → Option D) (i : Nat) (g : GM) : GM := fun ρ => (vM i ρ).bind fun _ => (g ρ).bind fun r => (vM i r.2).bind fun x => (f x r.1).map fun d => (d, r.2)
section
variable {X : Cx} {cl : Nat → Addr} {E : En} {a b : Expr} {pos p : Pos} {g : GM} {r : R2} {f : D → D → Option D}
theorem vM_some {i : Nat} {ρ : List D} {d : D} (h : vM i ρ = some d) : ρ[i]? = some d ∧ notGone d = true := by
  unfold vM at h
  cases e : ρ[i]? with
  | none => rw [e] at h; cases h
  | some d1 =>
    rw [e, Option.bind_some] at h
    split at h
    · rename_i hn; cases h; exact ⟨rfl, hn⟩
    · cases h
theorem slot_val {c : LC} {P H : Hp} {S : FP} {ρ : List D} {σ : St} {i : Nat} {d : D} (h : RepE c P H ρ σ S) (e : ρ[i]? = some d) (n : notGone d = true) : ∃ v T, σ[i]? = some (some v) ∧ Rep c P H d v T := by
  obtain ⟨ov, T, h1, h2, _⟩ := h.get e
  cases ov with
  | none => rw [h2.1] at n; cases n
  | some v => exact ⟨v, T, h1, h2⟩
theorem g_binV (i : Nat) {x : Str} {op : Operator} (ho : OpR X (binaryOp op) r) (hf : Op2 ⟨X.K, cl, X.w⟩ r f) (hb : PE X b (tG ⟨X.K, cl, X.w⟩ E g)) (hN : X.N[i]? = some x := by rfl) (hv : Vis X.env.scope x := by first | exact Or.inl rfl | exact Or.inr (Or.inl rfl) | exact Or.inr (Or.inr rfl)) (hd : (x == ("__debug__" : Str)) = false := by decide)
    (hcd : (x == ("__classdict__" : Str)) = false := by decide) : PE X (.BinOp (.Name x p) op b pos) (tG ⟨X.K, cl, X.w⟩ E (binVG f i g)) :=
  PE_imp (pe_op ho (pe_var hN hv hd hcd) hb) fun σ H Q ⟨P, S, T, ρ, d, ρ', w, hm, q⟩ => by
    unfold binVG at hm
    cases e1 : vM i ρ with
    | none => rw [e1] at hm; cases hm
    | some d0 =>
      rw [e1, Option.bind_some] at hm
      cases e2 : g ρ with
      | none => rw [e2] at hm; cases hm
      | some rr =>
        obtain ⟨db, ρ1⟩ := rr
        rw [e2, Option.bind_some] at hm
        cases e3 : vM i ρ1 with
        | none => rw [e3] at hm; cases hm
        | some da =>
          rw [e3, Option.bind_some] at hm
          cases e4 : f da db with
          | none => rw [e4] at hm; cases hm
          | some d1 =>
            rw [e4] at hm
            cases hm
            obtain ⟨k1, k2⟩ := vM_some e1
            obtain ⟨v, T0, hs, _⟩ := slot_val w.env k1 k2
            refine ⟨v, hs, P, S, T, ρ, db, _, w, e2, fun y H1 P1 S1 U1 w1 x1 ry kT => ?_⟩
            obtain ⟨j1, j2⟩ := vM_some e3
            obtain ⟨v', T1, hs', rx⟩ := slot_val w1.env j1 j2
            rw [hs] at hs'
            cases hs'
            refine hf P1 H1 w1.ph da db d v y T1 U1 e4 rx ry Q fun z H2 P2 U2 g2 rz u1 u2 => ?_
            exact q z H2 P2 S1 U2 ((w1.drop).aside g2 u1 u2 (Rep.there d z U2 rz)) (x1.trans g2.p) rz fun a o h1 h2 => g2.h a o (kT a o h1 h2)
end
end LI

namespace LI
open PySem L2

def rng1D : D → Option (List D) := fun d => match d with | .int j => if -(2 ^ 62) ≤ j ∧ j < 2 ^ 62 then some (upD 0 j.toNat) else none | _ => none
def rng2D : D → D → Option (List D) := fun x y => match x, y with | .int i, .int j => if -(2 ^ 62) ≤ i ∧ i < 2 ^ 62 ∧ -(2 ^ 62) ≤ j ∧ j < 2 ^ 62 then some (upD i (j - i).toNat) else none | _, _ => none
section
variable {ρ : List D} {i n : Nat} {d : D} {m ma mb mc : RM} {ms : AM} {f : D → D → Option D} {g : D → Option D} {F : FM}
@[simp] theorem ev_v : vM i ρ = (ρ[i]?).bind fun d => if notGone d = true then some d else none := (rfl)
@[simp] theorem ev_k : kM d ρ = some d := (rfl)
@[simp] theorem ev_m2 : m2 f ma mb ρ = (ma ρ).bind fun x => (mb ρ).bind fun y => f x y := (rfl)
@[simp] theorem ev_m1 : m1 g ma ρ = (ma ρ).bind g := (rfl)
@[simp] theorem ev_nil : nilM ρ = some [] := (rfl)
@[simp] theorem ev_cons : consM m ms ρ = (m ρ).bind fun d => (ms ρ).map fun ds => d :: ds := (rfl)
@[simp] theorem ev_tup : tupM ms ρ = (ms ρ).bind fun ds => if frzL ds = true ∧ ds.length ≤ LIM then some (.tup ds) else none := (rfl)
@[simp] theorem ev_lst : lstM ms ρ = (ms ρ).bind fun ds => if frzL ds = true ∧ ds.length ≤ LIM then some (.lst true ds) else none := (rfl)
@[simp] theorem ev_call : callM F ms ρ = (ms ρ).bind fun ds => (F (iceL ds)).bind fun r => if frzL ds = true ∨ noIce r.1 = true then some r.1 else none := (rfl)
@[simp] theorem ev_callV : callVM F ms ρ = (ms ρ).bind fun ds => (F (iceL ds)).map (·.1) := (rfl)
@[simp] theorem ev_upF : upF m ρ = (m ρ).map fun d => (d, ρ) := (rfl)
@[simp] theorem ev_upR : upR m ρ = (m ρ).bind fun d => if frz d = true then some (d, ρ) else none := (rfl)
@[simp] theorem ev_cold : coldM m ρ = (m ρ).map ice := (rfl)
@[simp] theorem ev_fr : frM m ρ = (m ρ).bind fun d => if frz d = true then some d else none := (rfl)
@[simp] theorem ev_tru : truM m ρ = (m ρ).bind truD := (rfl)
@[simp] theorem ev_bM : bM m ρ = (m ρ).bind fun d => match d with | .bl b => some b | _ => none := (rfl)
@[simp] theorem ev_notB {b : BM} : notB b ρ = (b ρ).map not := (rfl)
@[simp] theorem ev_andB {a b : BM} : andB a b ρ = (a ρ).bind fun k => if k = true then b ρ else some false := (rfl)
@[simp] theorem ev_orB {a b : BM} : orB a b ρ = (a ρ).bind fun k => if k = true then some true else b ρ := (rfl)
@[simp] theorem ev_notD : notD m ρ = ((m ρ).bind truD).map fun k => .bl (!k) := (rfl)
@[simp] theorem ev_andM : andM ma mb ρ = (bM ma ρ).bind fun k => if k = true then mb ρ else some (.bl false) := (rfl)
@[simp] theorem ev_orM : orM ma mb ρ = (bM ma ρ).bind fun k => if k = true then some (.bl true) else mb ρ := (rfl)
@[simp] theorem ev_iteM {b : BM} : iteM b ma mb ρ = (b ρ).bind fun k => if k = true then ma ρ else mb ρ := (rfl)
@[simp] theorem ev_ch {f g : D → D → Option D} : chM f g ma mb mc ρ = (ma ρ).bind fun x => (mb ρ).bind fun y => (f x y).bind fun z => match z with | .bl true => (mc ρ).bind fun u => g y u | .bl false => some (.bl false) | _ => none := (rfl)
@[simp] theorem ev_mA {f : List D → Option D} : mA f ms ρ = (ms ρ).bind f := (rfl)
@[simp] theorem ev_isi {ty : String} : isiM ty m ρ = (m ρ).bind fun d => (tyD d).bind fun t => (kitB t ty).map .bl := (rfl)
@[simp] theorem ev_noM : noM ρ = some none := (rfl)
@[simp] theorem ev_soM : soM m ρ = (m ρ).bind fun d => match d with | .int i => some (some i) | _ => none := (rfl)
@[simp] theorem ev_slM {lo hi : OM} : slM m lo hi ρ = (m ρ).bind fun d => (lo ρ).bind fun l => (hi ρ).bind fun h => slD l h d := (rfl)
@[simp] theorem ev_it : itM m ρ = (m ρ).bind itemsD := (rfl)
@[simp] theorem ev_itV : itV m ρ = (m ρ).bind itemsV := (rfl)
@[simp] theorem ev_disp {mk mv : AM} : dispM mk mv ρ = (mk ρ).bind fun kds => (mv ρ).bind fun vds => (keyDs kds).bind fun ks => if ks.Nodup ∧ frzL vds = true ∧ ks.length ≤ 15 ∧ ks.length = vds.length then some (.dK true ks vds) else none := (rfl)
@[simp] theorem keyDs_nil : keyDs [] = some [] := (rfl)
@[simp] theorem keyDs_cons {d : D} {ds : List D} : keyDs (d :: ds) = (keyD d).bind fun k => (keyDs ds).map fun ks => k :: ks := (rfl)
@[simp] theorem keyD_int {i : Int} : keyD (.int i) = some (.inl i) := (rfl)
@[simp] theorem keyD_str {s : List Nat} : keyD (.str s) = some (.inr ⟨s.toArray⟩) := (rfl)
@[simp] theorem ev_enumS : enumSM m ρ = (m ρ).bind fun d => match d with | .str s => some (enumFrom 0 (strsD s)) | d => (lstD d).map (enumFrom 0) := (rfl)
@[simp] theorem ev_binV {g : GM} : binVG f i g ρ = (vM i ρ).bind fun _ => (g ρ).bind fun r => (vM i r.2).bind fun x => (f x r.1).map fun d => (d, r.2) := (rfl)
@[simp] theorem ev_rng1 : rng1M m ρ = (m ρ).bind rng1D := (rfl)
@[simp] theorem ev_rng2 : rng2M ma mb ρ = (ma ρ).bind fun x => (mb ρ).bind fun y => rng2D x y := (rfl)
@[simp] theorem ev_enum : enumM m ρ = (m ρ).bind fun d => (lstD d).map (enumFrom 0) := (rfl)
@[simp] theorem ev_zip : zipM ma mb ρ = (ma ρ).bind fun d1 => (mb ρ).bind fun d2 => (lstD d1).bind fun a => (lstD d2).map fun b => zipD a b := (rfl)
@[simp] theorem ev_rev : revM m ρ = (m ρ).bind fun d => (lstD d).map List.reverse := (rfl)
@[simp] theorem ev_comp {vs : List Nat} {f : TgM} {mc : BM} : compM vs f mc m ms ρ = (ms ρ).bind fun ds => if ds.length ≤ LIM then (compL f mc m (goneAt ρ vs) ds).map (.lst true) else none := (rfl)
@[simp] theorem ev_yes : yesB ρ = some true := (rfl)
@[simp] theorem ev_name : nameT i d ρ = some (ρ.set i d) := (rfl)
@[simp] theorem ev_tupT {f : List D → List D → Option (List D)} {ds : List D} : tupT f (.tup ds) ρ = f ds ρ := (rfl)
@[simp] theorem ev_consT {f : TgM} {g : List D → List D → Option (List D)} {ds : List D} : consT f g (d :: ds) ρ = (f d ρ).bind fun ρ => g ds ρ := (rfl)
@[simp] theorem ev_nilT : nilT [] ρ = some ρ := (rfl)
@[simp] theorem ev_gone0 : goneAt ρ [] = ρ := (rfl)
@[simp] theorem ev_gone1 {v : Nat} {vs : List Nat} : goneAt ρ (v :: vs) = (goneAt ρ vs).set v .gone := (rfl)
@[simp] theorem ev_vLget : (vL i).get ρ = (ρ[i]?).bind fun d => if notGone d = true then some d else none := (rfl)
@[simp] theorem ev_vLput : (vL i).put ρ d = ρ.set i d := (rfl)
@[simp] theorem ev_mv {L : Lens} : mvM L ρ = (L.get ρ).bind fun d => some (d, L.put ρ .gone) := (rfl)
@[simp] theorem ev_app {L : Lens} : appL L m ρ = (L.get ρ).bind fun d => (m ρ).bind fun y => match d with | .lst true ds => if ds.length < LIM then some (.non, L.put ρ (.lst true (ds ++ [y]))) else none | _ => none := (rfl)
@[simp] theorem ev_iceAt : iceAt i ρ = match ρ[i]? with | some d => ρ.set i (ice d) | none => ρ := (rfl)
@[simp] theorem ev_spNx {ρ' : List D} : maskL [] ρ' = [] := (rfl)
@[simp] theorem ev_mask {b : Bool} {bs : List Bool} {ds : List D} : maskL (b :: bs) (d :: ds) = (if b = true then d else .gone) :: maskL bs ds := (rfl)
@[simp] theorem ev_mask0 {b : Bool} {bs : List Bool} : maskL (b :: bs) [] = .gone :: maskL bs [] := (rfl)
end
@[simp] theorem ng_non : notGone .non = true := (rfl)
@[simp] theorem ng_gone : notGone .gone = false := (rfl)
@[simp] theorem ng_bl {b} : notGone (.bl b) = true := (rfl)
@[simp] theorem ng_int {b} : notGone (.int b) = true := (rfl)
@[simp] theorem ng_str {b} : notGone (.str b) = true := (rfl)
@[simp] theorem ng_scr {b} : notGone (.scr b) = true := (rfl)
@[simp] theorem ng_kst {b} : notGone (.kst b) = true := (rfl)
@[simp] theorem ng_tup {b} : notGone (.tup b) = true := (rfl)
@[simp] theorem ng_lst {o b} : notGone (.lst o b) = true := (rfl)
@[simp] theorem ng_dK {o k b} : notGone (.dK o k b) = true := (rfl)
@[simp] theorem ng_dT {o k b} : notGone (.dT o k b) = true := (rfl)
@[simp] theorem ng_dN {o k b} : notGone (.dN o k b) = true := (rfl)
@[simp] theorem ng_obj {o k f b} : notGone (.obj o k f b) = true := (rfl)
@[simp] theorem fl_non : isFlat .non = true := (rfl)
@[simp] theorem fl_bl {b} : isFlat (.bl b) = true := (rfl)
@[simp] theorem fl_int {b} : isFlat (.int b) = true := (rfl)
@[simp] theorem fl_str {b} : isFlat (.str b) = true := (rfl)

@[simp] theorem inK_str {kvs z} : inK kvs (.str z) = some (.bl (kdGet kvs z).isSome) := (rfl)
@[simp] theorem ninK_str {kvs z} : ninK kvs (.str z) = some (.bl (!(kdGet kvs z).isSome)) := (rfl)
@[simp] theorem ixK_str {kvs z} : ixK kvs (.str z) = (kdGet kvs z).map D.str := (rfl)
@[simp] theorem fz_gone : frz .gone = true := (rfl)
@[simp] theorem fz_non : frz .non = true := (rfl)
@[simp] theorem fz_bl {b} : frz (.bl b) = true := (rfl)
@[simp] theorem fz_int {b} : frz (.int b) = true := (rfl)
@[simp] theorem fz_str {b} : frz (.str b) = true := (rfl)
@[simp] theorem fz_scr {b} : frz (.scr b) = true := (rfl)
@[simp] theorem fz_kst {b} : frz (.kst b) = true := (rfl)
@[simp] theorem fz_tup {b} : frz (.tup b) = frzL b := (rfl)
@[simp] theorem fz_lst {o b} : frz (.lst o b) = (!o && frzL b) := (rfl)
@[simp] theorem fz_dK {o k b} : frz (.dK o k b) = (!o && frzL b) := (rfl)
@[simp] theorem fz_dT {o k b} : frz (.dT o k b) = (!o && frzL b) := (rfl)
@[simp] theorem fz_dN {o k b} : frz (.dN o k b) = (!o && frzL b) := (rfl)
@[simp] theorem fz_obj {o k f b} : frz (.obj o k f b) = (!o && frzL b) := (rfl)
@[simp] theorem fzL_nil : frzL [] = true := (rfl)
@[simp] theorem fzL_cons {d ds} : frzL (d :: ds) = (frz d && frzL ds) := (rfl)
@[simp] theorem frzL_map {α : Type} {f : α → D} {xs : List α} : frzL (xs.map f) = true ↔ ∀ x ∈ xs, frz (f x) = true := by simp [frzL_iff]
@[simp] theorem frzL_app {a b : List D} : frzL (a ++ b) = (frzL a && frzL b) := by
  rw [Bool.eq_iff_iff]; simp only [frzL_iff, List.mem_append, Bool.and_eq_true]
  exact ⟨fun h => ⟨fun d q => h d (.inl q), fun d q => h d (.inr q)⟩, fun h d q => q.elim (h.1 d) (h.2 d)⟩
@[simp] theorem ice_gone : ice .gone = .gone := (rfl)
@[simp] theorem ice_non : ice .non = .non := (rfl)
@[simp] theorem ice_bl {b} : ice (.bl b) = .bl b := (rfl)
@[simp] theorem ice_int {b} : ice (.int b) = .int b := (rfl)
@[simp] theorem ice_str {b} : ice (.str b) = .str b := (rfl)
@[simp] theorem ice_scr {b} : ice (.scr b) = .scr b := (rfl)
@[simp] theorem ice_kst {b} : ice (.kst b) = .kst b := (rfl)
@[simp] theorem ice_tup {b} : ice (.tup b) = .tup (iceL b) := (rfl)
@[simp] theorem ice_lst {o b} : ice (.lst o b) = .lst false (iceL b) := (rfl)
@[simp] theorem ice_dK {o k b} : ice (.dK o k b) = .dK false k (iceL b) := (rfl)
@[simp] theorem ice_dT {o k b} : ice (.dT o k b) = .dT false k (iceL b) := (rfl)
@[simp] theorem ice_dN {o k b} : ice (.dN o k b) = .dN false k (iceL b) := (rfl)
@[simp] theorem ice_obj {o k f b} : ice (.obj o k f b) = .obj false k f (iceL b) := (rfl)
@[simp] theorem iceL_nil : iceL [] = [] := (rfl)
@[simp] theorem iceL_cons {d ds} : iceL (d :: ds) = ice d :: iceL ds := (rfl)
theorem iceL_eq : ∀ {ds : List D}, iceL ds = ds.map ice
  | [] => rfl
  | d :: ds => by simp [iceL_eq (ds := ds)]
mutual
theorem ice_frz : ∀ d : D, frz d = true → ice d = d
  | .gone, _ | .non, _ | .bl _, _ | .int _, _ | .str _, _ | .scr _, _ | .kst _, _ | .key _, _ => rfl
  | .tup ds, h => by rw [ice_tup, iceL_frz ds h]
  | .lst true ds, h => by simp at h
  | .lst false ds, h => by rw [ice_lst, iceL_frz ds (by simpa using h)]
  | .dK true k ds, h => by simp at h
  | .dK false k ds, h => by rw [ice_dK, iceL_frz ds (by simpa using h)]
  | .dT true k ds, h => by simp at h
  | .dT false k ds, h => by rw [ice_dT, iceL_frz ds (by simpa using h)]
  | .dN true k ds, h => by simp at h
  | .dN false k ds, h => by rw [ice_dN, iceL_frz ds (by simpa using h)]
  | .obj true k f ds, h => by simp at h
  | .obj false k f ds, h => by rw [ice_obj, iceL_frz ds (by simpa using h)]
theorem iceL_frz : ∀ ds : List D, frzL ds = true → iceL ds = ds
  | [], _ => rfl
  | d :: ds, h => by
    simp at h
    rw [iceL_cons, ice_frz d h.1, iceL_frz ds h.2]
end
@[simp] theorem iceL_map {α : Type} {f : α → D} {xs : List α} : iceL (xs.map f) = xs.map fun x => ice (f x) := by rw [iceL_eq, List.map_map]; rfl
@[simp] theorem iceL_app {a b : List D} : iceL (a ++ b) = iceL a ++ iceL b := by simp [iceL_eq]
mutual
theorem toP_ice : ∀ d : D, toP (ice d) = toP d
  | .gone | .non | .bl _ | .int _ | .str _ | .scr _ | .kst _ | .key _ => rfl
  | .tup ds => by simp only [ice_tup, toP, toPL_iceL ds]
  | .lst _ ds => by simp only [ice_lst, toP, toPL_iceL ds]
  | .dK _ k ds => rfl
  | .dT _ k ds => rfl
  | .dN _ k ds => rfl
  | .obj _ k f ds => rfl
theorem toPL_iceL : ∀ ds : List D, toPL (iceL ds) = toPL ds
  | [] => rfl
  | d :: ds => by simp only [iceL_cons, toPL, toP_ice d, toPL_iceL ds]
end
def good (n : Nat) (d : D) : Bool := match toP d with
  | some p => p.canLay0 && decide (p.depth ≤ n)
  | none => false
@[simp] theorem good_non {n} : good n .non = true := by simp [good, toP, PyData.canLay0, PyData.depth]
@[simp] theorem good_bl {n b} : good n (.bl b) = true := by simp [good, toP, PyData.canLay0, PyData.depth]
@[simp] theorem good_int {n b} : good n (.int b) = true := by simp [good, toP, PyData.canLay0, PyData.depth]
@[simp] theorem eqB_int {a b : Int} : eqB (.int a) (.int b) = some (a == b) := by simp [eqB, toP, SeqAt.shaped, PyData.canLay0, PyData.depth, PyData.eqv]
@[simp] theorem eqD_int {a b : Int} : eqD (.int a) (.int b) = some (.bl (a == b)) := by simp [eqD]
@[simp] theorem neD_int {a b : Int} : neD (.int a) (.int b) = some (.bl (a != b)) := by simp [neD, bne]
@[simp] theorem good_str {n : Nat} {b : List Nat} : good n (.str b) = b.all (fun k => decide (k < 0x110000)) := by
  simp [good, toP, PyData.canLay0, PyData.depth, PyData.strOk]
@[simp] theorem add_int {a b : Int} : addD (.int a) (.int b) = some (.int (a + b)) := (rfl)
@[simp] theorem sub_int {a b : Int} : subD (.int a) (.int b) = some (.int (a - b)) := (rfl)
@[simp] theorem add_str {a b : List Nat} : addD (.str a) (.str b) = if a.length + b.length ≤ LIM then some (.str (a ++ b)) else none := (rfl)
@[simp] theorem add_lst {o p : Bool} {a b : List D} : addD (.lst o a) (.lst p b) = if (frzL a && frzL b) = true ∧ a.length + b.length ≤ LIM then some (.lst true (a ++ b)) else none := (rfl)
@[simp] theorem add_tup {a b : List D} : addD (.tup a) (.tup b) = if (frzL a && frzL b) = true ∧ a.length + b.length ≤ LIM then some (.tup (a ++ b)) else none := (rfl)
@[simp] theorem mul_int {a b : Int} : mulD (.int a) (.int b) = if (-(2 ^ 64) < a ∧ a < 2 ^ 64) ∨ (-(2 ^ 64) < b ∧ b < 2 ^ 64) then some (.int (a * b)) else none := (rfl)
@[simp] theorem mul_lst {o : Bool} {a : List D} {k : Int} : mulD (.lst o a) (.int k) = if frzL a = true ∧ k ≤ 1000000 ∧ -1000000 ≤ k ∧ a.length * k.toNat ≤ LIM then some (.lst true (List.replicate k.toNat a).flatten) else none := (rfl)
@[simp] theorem mul_str {a : List Nat} {k : Int} : mulD (.str a) (.int k) = if k ≤ 1000000 ∧ -1000000 ≤ k ∧ a.length * k.toNat ≤ LIM then some (.str (List.replicate k.toNat a).flatten) else none := (rfl)
@[simp] theorem fdiv_int {a b : Int} : fdivD (.int a) (.int b) = if 0 < b ∧ b.natAbs.log2 < 9000 then some (.int (a / b)) else none := (rfl)
@[simp] theorem mod_int {a b : Int} : modD (.int a) (.int b) = if 0 < b then some (.int (a % b)) else none := (rfl)
@[simp] theorem pow_int {a b : Int} : powD (.int a) (.int b) = if 0 ≤ b ∧ b ≤ 1000000 ∧ a.natAbs < 2 ^ 64 then some (.int (a ^ b.toNat)) else none := (rfl)
@[simp] theorem neg_int {a : Int} : negD (.int a) = some (.int (-a)) := (rfl)
@[simp] theorem lt_int {a b : Int} : ltD (.int a) (.int b) = some (.bl (decide (a < b))) := (rfl)
@[simp] theorem le_int {a b : Int} : leD (.int a) (.int b) = some (.bl (decide (a ≤ b))) := (rfl)
@[simp] theorem gt_int {a b : Int} : gtD (.int a) (.int b) = some (.bl (decide (b < a))) := (rfl)
@[simp] theorem ge_int {a b : Int} : geD (.int a) (.int b) = some (.bl (decide (b ≤ a))) := (rfl)
@[simp] theorem lt_str {a b : List Nat} : ltD (.str a) (.str b) = some (.bl (decide (a < b))) := (rfl)
@[simp] theorem le_str {a b : List Nat} : leD (.str a) (.str b) = some (.bl (!decide (b < a))) := (rfl)
@[simp] theorem ix_lst {o : Bool} {ds : List D} {i : Int} : ixD (.lst o ds) (.int i) = atI ds i := (rfl)
@[simp] theorem ix_tup {ds : List D} {i : Int} : ixD (.tup ds) (.int i) = atI ds i := (rfl)
@[simp] theorem ix_scr {ds : List Int} {i : Int} : ixD (.scr ds) (.int i) = (atI ds i).map .int := (rfl)
@[simp] theorem ix_str {s : List Nat} {i : Int} : ixD (.str s) (.int i) = if s.length ≤ LIM then (atI s i).map fun k => .str [k] else none := (rfl)
theorem atI_at {α : Type} {xs : List α} {i : Int} (h : 0 ≤ i) (hl : i.toNat < xs.length) : atI xs i = some (xs[i.toNat]) := by
  unfold atI ixN
  have h1 : ¬ i < 0 := by omega
  have h2 : i < xs.length := by omega
  simp [h1, h, h2, hl]
@[simp] theorem atI_0 {α : Type} {x : α} {xs : List α} : atI (x :: xs) 0 = some x := by rw [atI_at (by omega) (by simp)]; rfl
@[simp] theorem atI_1 {α : Type} {x y : α} {xs : List α} : atI (x :: y :: xs) 1 = some y := by rw [atI_at (by omega) (by simp)]; rfl
@[simp] theorem atI_2 {α : Type} {x y z : α} {xs : List α} : atI (x :: y :: z :: xs) 2 = some z := by rw [atI_at (by omega) (by simp)]; rfl
@[simp] theorem atI_3 {α : Type} {x y z u : α} {xs : List α} : atI (x :: y :: z :: u :: xs) 3 = some u := by rw [atI_at (by omega) (by simp)]; rfl
@[simp] theorem atI_4 {α : Type} {x y z u v : α} {xs : List α} : atI (x :: y :: z :: u :: v :: xs) 4 = some v := by rw [atI_at (by omega) (by simp)]; rfl
@[simp] theorem len_tup {ds : List D} : lenD [.tup ds] = some (.int ds.length) := (rfl)
@[simp] theorem len_lst {o : Bool} {ds : List D} : lenD [.lst o ds] = some (.int ds.length) := (rfl)
@[simp] theorem len_scr {ds : List Int} : lenD [.scr ds] = some (.int ds.length) := (rfl)
@[simp] theorem len_dK {o k ds} : lenD [.dK o k ds] = some (.int k.length) := (rfl)
@[simp] theorem len_str {s : List Nat} : lenD [.str s] = if s.length ≤ LIM then some (.int s.length) else none := (rfl)
@[simp] theorem max2_int {i j : Int} : max2D [.int i, .int j] = some (.int (if j > i then j else i)) := (rfl)
@[simp] theorem min2_int {i j : Int} : min2D [.int i, .int j] = some (.int (if j < i then j else i)) := (rfl)
@[simp] theorem intD_int {i : Int} : intD [.int i] = some (.int i) := (rfl)
@[simp] theorem intD_bl {b : Bool} : intD [.bl b] = some (.int (if b then 1 else 0)) := (rfl)
@[simp] theorem sum_lst {o : Bool} {ds : List D} : sumD [.lst o ds] = (intsD ds).map fun is => .int is.sum := (rfl)
@[simp] theorem ints_nil : intsD [] = some [] := (rfl)
@[simp] theorem ints_cons {i : Int} {ds : List D} : intsD (.int i :: ds) = (intsD ds).map fun is => i :: is := (rfl)
@[simp] theorem ints_map {α : Type} {f : α → Int} : ∀ {xs : List α}, intsD (xs.map fun x => .int (f x)) = some (xs.map f)
  | [] => rfl
  | x :: xs => by simp [ints_map (xs := xs)]
@[simp] theorem list_lst {o : Bool} {ds : List D} : listD [.lst o ds] = if frzL ds = true then some (.lst true ds) else none := (rfl)
@[simp] theorem list_tup {ds : List D} : listD [.tup ds] = if frzL ds = true then some (.lst true ds) else none := (rfl)
@[simp] theorem list_scr {ns : List Int} : listD [.scr ns] = some (.lst true (ns.map .int)) := (rfl)
@[simp] theorem tru_bl {b : Bool} : truD (.bl b) = some b := (rfl)
@[simp] theorem tru_non : truD .non = some false := (rfl)
@[simp] theorem tru_int {i : Int} : truD (.int i) = some (i != 0) := (rfl)
@[simp] theorem tru_str {s : List Nat} : truD (.str s) = if s.length ≤ LIM then some (!s.isEmpty) else none := (rfl)
@[simp] theorem tru_tup {s : List D} : truD (.tup s) = some (!s.isEmpty) := (rfl)
@[simp] theorem tru_lst {o : Bool} {s : List D} : truD (.lst o s) = some (!s.isEmpty) := (rfl)
@[simp] theorem tru_scr {s : List Int} : truD (.scr s) = some (!s.isEmpty) := (rfl)
@[simp] theorem ty_non : tyD .non = some "NoneType" := (rfl)
@[simp] theorem ty_bl {b} : tyD (.bl b) = some "bool" := (rfl)
@[simp] theorem ty_int {b} : tyD (.int b) = some "int" := (rfl)
@[simp] theorem ty_str {b} : tyD (.str b) = some "str" := (rfl)
@[simp] theorem ty_scr {b} : tyD (.scr b) = some "list" := (rfl)
@[simp] theorem ty_lst {o b} : tyD (.lst o b) = some "list" := (rfl)
@[simp] theorem ty_tup {b} : tyD (.tup b) = some "tuple" := (rfl)
@[simp] theorem ty_dK {o k b} : tyD (.dK o k b) = some "dict" := (rfl)
@[simp] theorem ty_dT {o k b} : tyD (.dT o k b) = some "dict" := (rfl)
@[simp] theorem in_1 {k : Nat} {z : List Nat} : inB (.str [k]) (.str z) = some (decide (k ∈ z)) := (rfl)
@[simp] theorem inD_eq {x y : D} : inD x y = (inB x y).map .bl := (rfl)
@[simp] theorem ninD_eq {x y : D} : ninD x y = (inB x y).map fun k => .bl (!k) := (rfl)
@[simp] theorem itemsV_lst {o : Bool} {ds : List D} : itemsV (.lst o ds) = if frzL ds = true then some ds else none := (rfl)
@[simp] theorem itemsV_tup {ds : List D} : itemsV (.tup ds) = if frzL ds = true then some ds else none := (rfl)
@[simp] theorem itemsV_scr {ds : List Int} : itemsV (.scr ds) = some (ds.map .int) := (rfl)
@[simp] theorem itemsV_str {s : List Nat} : itemsV (.str s) = some (s.map fun k => .str [k]) := (rfl)
@[simp] theorem items_lst {ds : List D} : itemsD (.lst false ds) = if frzL ds = true then some ds else none := (rfl)
@[simp] theorem items_tup {ds : List D} : itemsD (.tup ds) = if frzL ds = true then some ds else none := (rfl)
@[simp] theorem items_scr {ds : List Int} : itemsD (.scr ds) = some (ds.map .int) := (rfl)
@[simp] theorem items_str {s : List Nat} : itemsD (.str s) = some (s.map fun k => .str [k]) := (rfl)
@[simp] theorem lstD_lst {ds : List D} : lstD (.lst false ds) = if frzL ds = true then some ds else none := (rfl)
@[simp] theorem lstD_scr {ds : List Int} : lstD (.scr ds) = some (ds.map .int) := (rfl)
@[simp] theorem sl_lst {o : Bool} {lo hi : Option Int} {ds : List D} : slD lo hi (.lst o ds) = if frzL ds = true then some (.lst true (cutL ds lo hi)) else none := (rfl)
@[simp] theorem sl_tup {lo hi : Option Int} {ds : List D} : slD lo hi (.tup ds) = if frzL ds = true then some (.tup (cutL ds lo hi)) else none := (rfl)
@[simp] theorem sl_scr {lo hi : Option Int} {ds : List Int} : slD lo hi (.scr ds) = some (.lst true ((cutL ds lo hi).map .int)) := (rfl)
@[simp] theorem sl_str {lo hi : Option Int} {ds : List Nat} : slD lo hi (.str ds) = if ds.length ≤ LIM then some (.str (cutL ds lo hi)) else none := (rfl)
theorem cut_to {α : Type} {xs : List α} {k : Int} (h : 0 ≤ k) : cutL xs none (some k) = xs.take k.toNat := by
  have : HT.sIx xs.length xs.length (some k) = min k.toNat xs.length := by
    unfold HT.sIx
    split <;> rename_i e <;> cases e <;> first | omega | (simp; omega) | skip
  unfold cutL
  rw [this]
  have e0 : HT.sIx xs.length 0 none = 0 := rfl
  rw [e0, List.drop_zero, Nat.sub_zero]
  rcases Nat.le_total k.toNat xs.length with q | q
  · rw [Nat.min_eq_left q]
  · rw [Nat.min_eq_right q, List.take_length, List.take_of_length_le q]
theorem cut_from {α : Type} {xs : List α} {k : Int} (h : 0 ≤ k) : cutL xs (some k) none = xs.drop k.toNat := by
  have : HT.sIx xs.length 0 (some k) = min k.toNat xs.length := by
    unfold HT.sIx
    split <;> rename_i e <;> cases e <;> first | omega | (simp; omega) | skip
  unfold cutL
  rw [this]
  have e0 : HT.sIx xs.length xs.length none = xs.length := rfl
  rw [e0]
  rcases Nat.le_total k.toNat xs.length with q | q
  · rw [Nat.min_eq_left q]; exact List.take_of_length_le (by simp)
  · rw [Nat.min_eq_right q]; simp [List.drop_of_length_le q]
theorem seq_nx {a b : SM} {ρ ρ1 : List D} (h : a ρ = some (.nx, ρ1)) : seqM a b ρ = b ρ1 := by simp [seqM, h]
theorem seq_rt {a b : SM} {ρ ρ1 : List D} {d : D} (h : a ρ = some (.rt d, ρ1)) : seqM a b ρ = some (.rt d, ρ1) := by simp [seqM, h]
theorem run_eq {n : Nat} {kp : List Bool} {m : SM} {ds ρ' : List D} {d : D} (hl : ds.length = kp.length) (h : m (ds ++ List.replicate (n - ds.length) .gone) = some (.rt d, ρ')) : runM n kp m ds = some (d, maskL kp ρ') := by unfold runM; rw [if_pos hl, h]; rfl
section
variable {f : TgM} {body : SM} {kl : List Nat}
end

end LI

namespace LI
open PySem L2

theorem upD_eq (lo : Int) (n : Nat) : upD lo n = (List.range n).map fun (k : Nat) => D.int (lo + (k : Int)) := rfl
theorem for_at {f : TgM} {body : SM} {kl : List Nat} {ms : AM} {ρ ds : List D} (h : ms ρ = some ds) : forM f body kl ms ρ = forL f body kl ds ρ := by
  unfold forM; rw [h]; rfl
def cellF : FM := runM 2 [true, true] (seqM (ifM (bM (m2 ltD (vM 1) (mA lenD (consM (vM 0) nilM)))) (retM (upR (m2 ixD (vM 0) (vM 1)))) skipM)
  (retM (upF (kM (.int 0)))))
theorem cell_eq (ns : List Int) (k : Nat) : cellF [.scr ns, .int k] = some (.int (ns.getD k 0), [.scr ns, .int k]) := by
  unfold cellF
  refine run_eq (ρ' := [.scr ns, .int k]) rfl ?_
  by_cases h : k < ns.length
  · refine seq_rt ?_
    simp -implicitDefEqProofs [ifM, retM, h, atI_at, List.getD_eq_getElem?_getD]
  · rw [seq_nx (ρ1 := [.scr ns, .int k]) (by simp -implicitDefEqProofs [ifM, skipM, h])]
    simp -implicitDefEqProofs [retM, h, List.getD_eq_getElem?_getD]
theorem upD0 (n : Nat) : upD 0 n = (List.range n).map fun (k : Nat) => D.int (k : Int) := by
  rw [upD_eq]; simp
theorem atI_nat {α : Type} {xs : List α} {k : Nat} (h : k < xs.length) : atI xs (k : Int) = some xs[k] := atI_at (by omega) (by simpa using h)
theorem if_F {mc : BM} {a b : SM} {ρ : List D} (h : mc ρ = some false) : ifM mc a b ρ = b ρ := by unfold ifM; rw [h]; rfl
theorem if_T {mc : BM} {a b : SM} {ρ : List D} (h : mc ρ = some true) : ifM mc a b ρ = a ρ := by unfold ifM; rw [h]; rfl
@[simp] theorem kit_int_int : kitB "int" "int" = some true := by decide +kernel
@[simp] theorem kit_int_bool : kitB "int" "bool" = some false := by decide +kernel
@[simp] theorem kit_int_str : kitB "int" "str" = some false := by decide +kernel
@[simp] theorem kit_int_list : kitB "int" "list" = some false := by decide +kernel
@[simp] theorem kit_int_tuple : kitB "int" "tuple" = some false := by decide +kernel
@[simp] theorem kit_int_dict : kitB "int" "dict" = some false := by decide +kernel
@[simp] theorem kit_bool_int : kitB "bool" "int" = some true := by decide +kernel
@[simp] theorem kit_bool_bool : kitB "bool" "bool" = some true := by decide +kernel
@[simp] theorem kit_bool_str : kitB "bool" "str" = some false := by decide +kernel
@[simp] theorem kit_bool_list : kitB "bool" "list" = some false := by decide +kernel
@[simp] theorem kit_bool_tuple : kitB "bool" "tuple" = some false := by decide +kernel
@[simp] theorem kit_bool_dict : kitB "bool" "dict" = some false := by decide +kernel
@[simp] theorem kit_str_int : kitB "str" "int" = some false := by decide +kernel
@[simp] theorem kit_str_bool : kitB "str" "bool" = some false := by decide +kernel
@[simp] theorem kit_str_str : kitB "str" "str" = some true := by decide +kernel
@[simp] theorem kit_str_list : kitB "str" "list" = some false := by decide +kernel
@[simp] theorem kit_str_tuple : kitB "str" "tuple" = some false := by decide +kernel
@[simp] theorem kit_str_dict : kitB "str" "dict" = some false := by decide +kernel
@[simp] theorem kit_list_int : kitB "list" "int" = some false := by decide +kernel
@[simp] theorem kit_list_bool : kitB "list" "bool" = some false := by decide +kernel
@[simp] theorem kit_list_str : kitB "list" "str" = some false := by decide +kernel
@[simp] theorem kit_list_list : kitB "list" "list" = some true := by decide +kernel
@[simp] theorem kit_list_tuple : kitB "list" "tuple" = some false := by decide +kernel
@[simp] theorem kit_list_dict : kitB "list" "dict" = some false := by decide +kernel
@[simp] theorem kit_tuple_int : kitB "tuple" "int" = some false := by decide +kernel
@[simp] theorem kit_tuple_bool : kitB "tuple" "bool" = some false := by decide +kernel
@[simp] theorem kit_tuple_str : kitB "tuple" "str" = some false := by decide +kernel
@[simp] theorem kit_tuple_list : kitB "tuple" "list" = some false := by decide +kernel
@[simp] theorem kit_tuple_tuple : kitB "tuple" "tuple" = some true := by decide +kernel
@[simp] theorem kit_tuple_dict : kitB "tuple" "dict" = some false := by decide +kernel
@[simp] theorem kit_dict_int : kitB "dict" "int" = some false := by decide +kernel
@[simp] theorem kit_dict_bool : kitB "dict" "bool" = some false := by decide +kernel
@[simp] theorem kit_dict_str : kitB "dict" "str" = some false := by decide +kernel
@[simp] theorem kit_dict_list : kitB "dict" "list" = some false := by decide +kernel
@[simp] theorem kit_dict_tuple : kitB "dict" "tuple" = some false := by decide +kernel
@[simp] theorem kit_dict_dict : kitB "dict" "dict" = some true := by decide +kernel
@[simp] theorem kit_NoneType_int : kitB "NoneType" "int" = some false := by decide +kernel
@[simp] theorem kit_NoneType_bool : kitB "NoneType" "bool" = some false := by decide +kernel
@[simp] theorem kit_NoneType_str : kitB "NoneType" "str" = some false := by decide +kernel
@[simp] theorem kit_NoneType_list : kitB "NoneType" "list" = some false := by decide +kernel
@[simp] theorem kit_NoneType_tuple : kitB "NoneType" "tuple" = some false := by decide +kernel
@[simp] theorem kit_NoneType_dict : kitB "NoneType" "dict" = some false := by decide +kernel
@[simp] theorem lim_ge (n : Nat) : (OfNat.ofNat n : Nat) ≤ LIM ↔ n ≤ 4000000 := Iff.rfl
@[simp] theorem lim_0 : 0 ≤ LIM := by decide
@[simp] theorem lim_1 : 1 ≤ LIM := by decide
end LI

namespace LI
open PySem L2

section
variable {X : Cx} {cl : Nat → Addr} {E : En} {e e0 a b o tg : Expr} {es : List Expr} {pos pos' p apos : Pos} {m mo ma mb : RM} {g : GM} {ms : AM} {n : Nat} {f nm x : Str} {L : Lens} {σ : L2.St}
def frzM (i : Nat) (m : SM) : SM := fun ρ => m (iceAt i ρ)
theorem s_frz (i : Nat) {m : SM} {sts : List Stmt} (h : PSs X sts (tS ⟨X.K, cl, X.w⟩ E m)) : PSs X sts (tS ⟨X.K, cl, X.w⟩ E (frzM i m)) := PSs_imp h fun D σ H ⟨P, S, ρ, fl, ρ', w, hm, q⟩ => by
  obtain ⟨P', S', w', ex⟩ := w.iceAt i
  exact ⟨P', S', _, fl, ρ', w', hm, q.mono ex⟩
theorem lst_upd {c : LC} {P H : Hp} {S T : FP} {ρ : List D} {v : V} {ds : List D} {Sd R : FP} (w : Wd c E P S T σ H ρ) (l : Loc c L P H σ ρ S v (.lst true ds) Sd R) (hz : frzL ds = true) : ∃ a xs, v = .ref a ∧ H a = some (.lst xs) ∧ RepL c P H ds xs fz ∧
    ∀ (ys : List V) (es : List D), (∀ H', RepL c P H' es ys fz) → ∃ S', Wd c E P S' T σ (upd H a (.lst ys)) (L.put ρ (.lst true es)) ∧ ∀ b u, 0 < T b → H b = some u → upd H a (.lst ys) b = some u := by
  have w' : Wd c E P S (fa T fz) σ H ρ := by rw [fa_fz]; exact w
  obtain ⟨a, xs, T1, e1, hh, rl, hS, k⟩ := loc_lst w' l
  have z := RepL.frz0 ds xs T1 hz rl
  subst z
  refine ⟨a, xs, e1, hh, rl, fun ys es hr => ?_⟩
  have w2 := k ys es fz fz (hr _) fun b => by simp only [fz]; omega
  rw [fa_fz] at w2
  refine ⟨_, w2, fun b u hb hu => ?_⟩
  have : b ≠ a := fun q => by
    subst q
    have := w.le b; have := l.sum b; have := hS b
    simp [one] at *; omega
  rw [upd_ne this]; exact hu
theorem repL_any {c : LC} {P H : Hp} {ds : List D} {xs : List V} (r : RepL c P H ds xs fz) : ∀ H', RepL c P H' ds xs fz := fun H' => RepL.mono (.refl _) ds xs fz (fun a o h => by simp [fz] at h) r
theorem repL_set {c : LC} {P H : Hp} {ds : List D} {xs : List V} {i : Nat} {d : D} {v : V} (r : RepL c P H ds xs fz) (h : i < ds.length) (hv : Rep c P H d v fz) : RepL c P H (ds.set i d) (xs.set i v) fz := by
  obtain ⟨v0, Sd, R, h1, h2, h3, h4⟩ := r.focus (List.getElem?_eq_getElem h)
  have : R = fz := by funext b; have := h3 b; simp only [fz] at this ⊢; omega
  subst this
  have := h4 P H d v fz (.refl _) (fun _ _ h => by simp [fz] at h) hv
  rwa [fa_fz] at this
end
end LI

namespace LI
open PySem L2

section
variable {X : Cx} {cl : Nat → Addr} {E : En} {e e0 a b o i tg : Expr} {es : List Expr} {pos pos' p apos : Pos} {m mo ma mb mi : RM} {g : GM} {ms ms1 ms2 : AM} {n : Nat} {f nm x : Str} {L : Lens} {σ : L2.St} {CX : CXT} {k : Nat} {fad : Addr} {fd : FuncData} {ps : List Str} {F : FM} {XE : XK}
def storeM (L : Lens) (mi : RM) (g : GM) : SM := fun ρ => (g ρ).bind fun r => (L.get r.2).bind fun l => (mi r.2).bind fun k => match l, k with
  | .lst true ds, .int j => if frzL ds = true ∧ frz r.1 = true then (ixN ds.length j).map fun j => (.nx, L.put r.2 (.lst true (ds.set j r.1))) else none
  | _, _ => none
theorem store_split {ρ : List D} {r : Fl × List D} (h : storeM L mi g ρ = some r) : ∃ d ρ1 ds k j, g ρ = some (d, ρ1) ∧ L.get ρ1 = some (.lst true ds) ∧ mi ρ1 = some (.int k) ∧ frzL ds = true ∧ frz d = true ∧ ixN ds.length k = some j ∧ r = (.nx, L.put ρ1 (.lst true (ds.set j d))) := by
  unfold storeM at h
  cases e1 : g ρ with
  | none => rw [e1] at h; cases h
  | some r1 =>
    obtain ⟨d, ρ1⟩ := r1
    rw [e1, Option.bind_some] at h
    dsimp only at h
    cases e2 : L.get ρ1 with
    | none => rw [e2] at h; cases h
    | some l =>
      cases e3 : mi ρ1 with
      | none => rw [e2, e3] at h; cases h
      | some k =>
        rw [e2, e3, Option.bind_some, Option.bind_some] at h
        split at h
        · rename_i ds j
          split at h
          · rename_i hc
            cases e4 : ixN ds.length j with
            | none => rw [e4] at h; cases h
            | some j' => rw [e4] at h; cases h; exact ⟨d, ρ1, ds, j, j', rfl, e2, e3, hc.1, hc.2, e4, rfl⟩
          · cases h
        · cases h
theorem ixN_lt {n : Nat} {i : Int} {j : Nat} (h : ixN n i = some j) : j < n := (ixN_seq h).2.1
theorem s_store (he : PE X e (tG ⟨X.K, cl, X.w⟩ E g)) (ho : PE X o (tPl ⟨X.K, cl, X.w⟩ E L)) (hi : PE X i (tR ⟨X.K, cl, X.w⟩ E mi)) (hs : swapsWithSole [.Subscript o i pos'] e pos.line X.env = pure false := by rfl) (hw : swappedStores [.Subscript o i pos'] e X.env = pure none := by rfl)
    (h1 : (assignEach [.Subscript o i pos'] X.env).map (·.2) = [assign (.Subscript o i pos') X.env] := by rfl)
    (hsub : ∀ v, assign (.Subscript o i pos') X.env v = (do
      let ov ← holding [v] (eval o X.env)
      let iv ← holding [v, ov] (eval i X.env)
      standAt pos'
      holding [v, ov, iv] (setItem ov iv v)
      release [v, ov, iv] []) := by intro _; rfl) : PS X (.Assign [.Subscript o i pos'] e pos) (tS ⟨X.K, cl, X.w⟩ E (storeM L mi g)) :=
  PS_imp (ps_asg he (pg_sub ho hi set_list hsub) hs hw h1) fun D σ H ⟨P, S, ρ, fl, ρ', w, hm, q⟩ => by
    obtain ⟨d, ρ1, ds, k, j, eg, el, ei, hz, hd, hj, e3⟩ := store_split hm
    cases e3
    refine g_run w eg fun y H1 P1 S1 U w1 ex r1 => ?_
    have hU := Rep.frz0 d y U hd r1
    subst hU
    refine ⟨P1, S1, fz, ρ1, _, w1, el, fun v Sd R l => ?_⟩
    refine ⟨P1, S1, fz, ρ1, _, w1, ei, fun iv H2 P2 U2 g2 r2 => ?_⟩
    obtain ⟨a, xs, ev, hh, rl, kk⟩ := lst_upd (w1.grow g2) (l.grow g2) hz
    have hjl := ixN_lt hj
    obtain ⟨S', w2, kT⟩ := kk (xs.set j y) (ds.set j d) fun H' => repL_set (repL_any rl H') hjl (Rep.mono g2.p d y fz (fun _ _ h => by simp [fz] at h) r1)
    refine ⟨a, xs, k, j, ev, r2.1, hh, by rw [← rl.length]; exact hj, ?_⟩
    exact q σ _ P2 S' w2 (ex.trans g2.p)
end
end LI

namespace LI
open PySem L2

section
variable {X : Cx} {cl : Nat → Addr} {E : En} {e a b o i : Expr} {pos p apos cpos : Pos} {g ga gb : GM} {m ma mb mc mk mv : RM} {r : R2} {f : D → D → Option D}
def truG (g : GM) : BGM := fun ρ => (g ρ).bind fun r => (truD r.1).map fun k => (k, r.2)
theorem tg_val (ha : PE X a (tG ⟨X.K, cl, X.w⟩ E g)) (he : ∀ whole, isTrue a X.env whole = (do let v ← whole; standAt a.pos; holding [v] (truthy v)) := by intro _; rfl) : PT X a (tTG ⟨X.K, cl, X.w⟩ E (truG g)) :=
  PT_imp (pt_truth ha he) fun σ H Q ⟨P, S, T, ρ, k, ρ', w, hm, q⟩ => by
    unfold truG at hm
    cases ea : g ρ with
    | none => rw [ea] at hm; cases hm
    | some r =>
      obtain ⟨d, ρ1⟩ := r
      rw [ea, Option.bind_some] at hm
      cases ed : truD d with
      | none => rw [ed] at hm; cases hm
      | some j =>
        rw [ed] at hm
        cases hm
        exact ⟨P, S, T, ρ, d, _, w, ea, fun v H' P' S' U w' x r kT => ⟨_, truD_v w'.ph ed r, q H' P' S' w'.drop x kT⟩⟩
def notG (m : BGM) : BGM := fun ρ => (m ρ).map fun r => (!r.1, r.2)
theorem tg_not {m : BGM} (h : PT X a (tTG ⟨X.K, cl, X.w⟩ E m)) : PT X (.UnaryOp .Not a pos) (tTG ⟨X.K, cl, X.w⟩ E (notG m)) := PT_imp (pt_not h) fun σ H Q ⟨P, S, T, ρ, b, ρ', w, hm, q⟩ => by
  unfold notG at hm
  cases ea : m ρ with
  | none => rw [ea] at hm; cases hm
  | some r =>
    obtain ⟨k, ρ1⟩ := r
    rw [ea] at hm
    cases hm
    exact ⟨P, S, T, ρ, k, _, w, ea, fun H' P' S' w' x kT => q H' P' S' w' x kT⟩
end
end LI

namespace LI
open PySem L2

section
variable {c : LC} {P H : Hp}
end
section
variable {X : Cx} {cl : Nat → Addr} {E : En} {e a b o i f0 : Expr} {pos p apos cpos pos' : Pos} {m ma mb mc mk mv mi : RM} {g : GM} {L : Lens}
end
end LI

namespace LI
open PySem L2

class LOk (L : Lens) : Prop where
  ok : ∀ (c : LC) (P H : Hp) (ρ : List D) (σ : L2.St) (S : FP) (d : D), Ex P H → RepE c P H ρ σ S → L.get ρ = some d → ∃ v Sd R, Loc c L P H σ ρ S v d Sd R
instance {i : Nat} : LOk (vL i) := ⟨fun c P H ρ σ S d e r h => by
  obtain ⟨h1, h2⟩ := vL_get h
  obtain ⟨v, Sd, R, k1, k2, k3, k4⟩ := r.focus h1 h2
  exact ⟨v, Sd, R, ⟨k3, k2, k4⟩⟩⟩
instance {n : Nat} {f : Str} {L : Lens} [LOk L] : LOk (fldL n f L) := ⟨fun c P H ρ σ S d e r hg => by
  obtain ⟨o, fs, ds, j, h1, h2, h3, h4, h5⟩ := fld_split hg
  obtain ⟨v, Sd, R, l⟩ := LOk.ok (L := L) c P H ρ σ S _ e r h1
  obtain ⟨a, dx, xs, T1, Z, e1, hh, nl, rl, hz, hput⟩ := obj_heap e l.rep
  obtain ⟨y, S1, R1, k1, k2, k3, k4⟩ := rl.focus h3
  refine ⟨y, S1, fa (fa Z R1) R, ⟨fun b => ?_, k2, fun P2 H2 d2 S2 ep kr r2 => ?_⟩⟩
  · have := l.sum b; have := hz b; have := k3 b; simp only [fa]; omega
  · rw [h5]
    have rl2 := k4 P2 H2 d2 y S2 ep (fun b u z1 z2 => kr b u (by simp only [fa]; omega) z2) r2
    have e2 : xs.set j y = xs := by
      apply List.ext_getElem?
      intro t
      by_cases ht : t = j
      · subst ht; rw [k1, List.getElem?_set_self (List.getElem?_eq_some_iff.mp k1).1]
      · rw [List.getElem?_set_ne (Ne.symm ht)]
    rw [e2] at rl2
    have := l.put P2 H2 _ _ ep (fun b u z1 z2 => kr b u (by simp only [fa]; omega) z2) (hput P2 H2 _ _ ep (fun b u z1 z2 => kr b u (by simp only [fa]; omega) z2) rl2)
    have e3 : fa (fa Z (fa S2 R1)) R = fa S2 (fa (fa Z R1) R) := by funext b; simp only [fa]; omega
    rw [e3] at this
    exact this⟩
theorem Wd.iceL {c : LC} {P H : Hp} {S T : FP} {σ : L2.St} {ρ : List D} {L : Lens} {v : V} {d : D} {Sd R : FP} (w : Wd c E P S T σ H ρ) (l : Loc c L P H σ ρ S v d Sd R) : ∃ P' S', Wd c E P' S' T σ H (L.put ρ (ice d)) ∧ Ex P P' := by
  have h1 := l.sum
  have hP : ∀ a, 0 < Sd a → P a = none := fun a z => w.out a (by have := h1 a; omega)
  have ex : Ex P (fun a => if 0 < Sd a then H a else P a) := fun a o z => by
    by_cases hu : 0 < Sd a
    · rw [hP a hu] at z; cases z
    · simp [hu, z]
  have hr : Rep c (fun a => if 0 < Sd a then H a else P a) H (ice d) v fz := Rep.ice ex d v Sd (fun a o z1 z2 => by simp [z1, z2]) l.rep
  have henv := l.put _ H _ fz ex (fun _ _ _ h => h) hr
  rw [fz_fa] at henv
  refine ⟨fun a => if 0 < Sd a then H a else P a, R, ⟨henv, fun a => ?_, fun a z => ?_, w.th, fun a o z => ?_, w.p0.trans ex, w.fr, fun a z => ?_, fun a z => w.ns a (by have := h1 a; omega), w.kp⟩, ex⟩
  · have := w.le a; have := h1 a; omega
  · have l2 := w.le a; have s := h1 a
    have hu : ¬ 0 < Sd a := by omega
    simp only [hu, if_false]
    exact w.out a (by omega)
  · by_cases hu : 0 < Sd a
    · simpa [hu] using z
    · exact w.ph a o (by simpa [hu] using z)
  · by_cases hu : 0 < Sd a
    · exact .inr (w.ns a (by have := h1 a; omega))
    · exact w.np a (by simpa [hu] using z)
def frzP (L : Lens) (m : SM) : SM := fun ρ => (L.get ρ).bind fun d => m (L.put ρ (ice d))
theorem s_frzP (L : Lens) [LOk L] {X : Cx} {cl : Nat → Addr} {E : En} {m : SM} {sts : List Stmt} (h : PSs X sts (tS ⟨X.K, cl, X.w⟩ E m)) : PSs X sts (tS ⟨X.K, cl, X.w⟩ E (frzP L m)) := PSs_imp h fun D σ H ⟨P, S, ρ, fl, ρ', w, hm, q⟩ => by
  unfold frzP at hm
  cases e1 : L.get ρ with
  | none => rw [e1] at hm; cases hm
  | some d =>
    rw [e1, Option.bind_some] at hm
    obtain ⟨v, Sd, R, l⟩ := LOk.ok (L := L) ⟨X.K, cl, X.w⟩ P H ρ σ S d w.ph w.env e1
    obtain ⟨P2, S2, w2, e2⟩ := w.iceL l
    exact ⟨P2, S2, _, fl, ρ', w2, hm, q.mono e2⟩
def coldG (g : GM) : GM := fun ρ => (g ρ).map fun r => (ice r.1, r.2)
theorem g_cold {X : Cx} {cl : Nat → Addr} {E : En} {e : Expr} {g : GM} (h : PE X e (tG ⟨X.K, cl, X.w⟩ E g)) : PE X e (tG ⟨X.K, cl, X.w⟩ E (coldG g)) := PE_imp h fun σ H Q ⟨P, S, T, ρ, d, ρ', w, hm, q⟩ => by
  unfold coldG at hm
  cases e1 : g ρ with
  | none => rw [e1] at hm; cases hm
  | some r =>
    obtain ⟨d1, ρ1⟩ := r
    rw [e1] at hm
    cases hm
    refine ⟨P, S, T, ρ, d1, ρ1, w, e1, fun v H' P' S' U w' x r kT => ?_⟩
    have hP : ∀ a, 0 < U a → P' a = none := fun a z => w'.out a (by simp only [fa]; omega)
    have ex : Ex P' (fun a => if 0 < U a then H' a else P' a) := fun a o z => by
      by_cases hu : 0 < U a
      · rw [hP a hu] at z; cases z
      · simp [hu, z]
    have hr : Rep ⟨X.K, cl, X.w⟩ (fun a => if 0 < U a then H' a else P' a) H' (ice d1) v fz := Rep.ice ex d1 v U (fun a o z1 z2 => by simp [z1, z2]) r
    refine q v H' _ S' fz ?_ (x.trans ex) hr kT
    rw [fa_fz]
    refine ⟨RepE.mono ex _ _ _ (fun _ _ _ h => h) w'.env, fun a => ?_, fun a z => ?_, fun a z => w'.th a (by simp only [fa]; omega), fun a o z => ?_, w'.p0.trans ex, fun a o z1 z2 => w'.fr a o z1 z2, fun a z => ?_, fun a z => w'.ns a (by first | exact z | (simp only [fa]; omega)), w'.kp⟩
    · have := w'.le a; simp only [fa] at *; omega
    · have l := w'.le a
      have hu : ¬ 0 < U a := by simp only [fa] at l; omega
      simp only [hu, if_false]
      exact w'.out a (by simp only [fa]; omega)
    · by_cases hu : 0 < U a
      · simpa [hu] using z
      · exact w'.ph a o (by simpa [hu] using z)
    · by_cases hu : 0 < U a
      · exact .inr (w'.ns a (by simp only [fa]; omega))
      · exact w'.np a (by simpa [hu] using z)
abbrev AGM := List D → Option (List D × List D)
def tAG (c : LC) (E : En) (m : AGM) : TA := fun σ H Q => ∃ P S T ρ ds ρ', Wd c E P S T σ H ρ ∧ m ρ = some (ds, ρ') ∧
  ∀ vs H' P' S', Wd c E P' S' T σ H' ρ' → Ex P P' → RepL c P' H' ds vs fz → (∀ a o, 0 < T a → H a = some o → H' a = some o) → Q vs H'
def nilG : AGM := fun ρ => some ([], ρ)
def consG (g : GM) (ms : AGM) : AGM := fun ρ => (g ρ).bind fun r => if frz r.1 = true then (ms r.2).map fun s => (r.1 :: s.1, s.2) else none
section
variable {X : Cx} {cl : Nat → Addr} {E : En} {e : Expr} {es : List Expr} {pos p : Pos} {g : GM} {ms : AGM} {CX : CXT} {k : Nat} {f : Addr} {fd : FuncData} {ps : List Str} {F : FM} {XE : XK} {x : Str}
theorem ag_nil : PA X [] (tAG ⟨X.K, cl, X.w⟩ E nilG) := PA_imp pa_nil fun σ H Q ⟨P, S, T, ρ, ds, ρ', w, hm, q⟩ => by
  cases hm
  exact q [] H P S w (.refl _) ⟨rfl, rfl⟩ fun _ _ _ h => h
theorem ag_cons (h : PE X e (tG ⟨X.K, cl, X.w⟩ E g)) (hr : PA X es (tAG ⟨X.K, cl, X.w⟩ E ms)) (hs : starEach (e :: es) X.env = (false, eval e X.env) :: starEach es X.env := by rfl) : PA X (e :: es) (tAG ⟨X.K, cl, X.w⟩ E (consG g ms)) :=
  PA_imp (pa_cons h hr hs) fun σ H Q ⟨P, S, T, ρ, ds, ρ', w, hm, q⟩ => by
    unfold consG at hm
    cases e1 : g ρ with
    | none => rw [e1] at hm; cases hm
    | some r =>
      obtain ⟨d, ρ1⟩ := r
      rw [e1, Option.bind_some] at hm
      dsimp only at hm
      split at hm
      · rename_i hz
        cases e2 : ms ρ1 with
        | none => rw [e2] at hm; cases hm
        | some s =>
          obtain ⟨ds2, ρ2⟩ := s
          rw [e2] at hm
          cases hm
          refine ⟨P, S, T, ρ, d, ρ1, w, e1, fun v H1 P1 S1 U w1 x1 r1 k1 => ?_⟩
          have z := Rep.frz0 d v U hz r1
          subst z
          rw [fa_fz] at w1
          refine ⟨P1, S1, T, ρ1, ds2, _, w1, e2, fun vs H2 P2 S2 w2 x2 r2 k2 => ?_⟩
          exact q (v :: vs) H2 P2 S2 w2 (x1.trans x2) ⟨v, vs, fz, fz, rfl, Rep.mono x2 d v fz (fun a o z _ => by simp [fz] at z) r1, r2, by rw [fa_fz]⟩ fun a o z1 z2 => k2 a o z1 (k1 a o z1 z2)
      · cases hm
def callG (F : FM) (ms : AGM) : GM := fun ρ => (ms ρ).bind fun s => if frzL s.1 = true then (F s.1).map fun r => (r.1, s.2) else none
theorem g_callG (G : FnOk X.prog X.w X.K X.mg X.base CX k f fd ps (spD ⟨X.K, cl, X.w⟩ F)) (hr : Room k X.A) (hg : Gl X x) (hm : X.mg x = some (.ref f)) (hk : PySem.W.keepIn X.K (.ref f) = true) (hb : Binds X.K fd ps []) (hx : Passes CX X XE)
    (ha : PA X (e :: es) (tAG ⟨X.K, cl, X.w⟩ E ms)) (hdb : (x == ("__debug__" : Str)) = false := by decide) (he : starEach (e :: es) X.env = (false, eval e X.env) :: starEach es X.env := by rfl) (hpl : (backTo pos (starEach es X.env)).any (·.1) = false := by rfl) :
    PE X (.Call (.Name x p) (e :: es) [] pos) (tG ⟨X.K, cl, X.w⟩ E (callG F ms)) := PE_imp (pe_call G hr hg hm hk hb .nil hx ha hdb he hpl) fun σ H Q ⟨P, S, T, ρ, d, ρ', w, h, q⟩ => by
  unfold callG at h
  cases e1 : ms ρ with
  | none => rw [e1] at h; cases h
  | some s =>
    obtain ⟨ds, ρ1⟩ := s
    rw [e1, Option.bind_some] at h
    dsimp only at h
    split at h
    · rename_i hz
      cases e2 : F ds with
      | none => rw [e2] at h; cases h
      | some r =>
        obtain ⟨d1, ds'⟩ := r
        rw [e2] at h
        cases h
        refine ⟨P, S, T, ρ, ds, _, w, e1, fun vs H1 P1 S1 w1 x1 r1 k1 => ?_⟩
        show spD ⟨X.K, cl, X.w⟩ F (vs ++ []) H1 Q XE
        rw [List.append_nil]
        have hi : iceL ds = ds := iceL_frz ds hz
        refine spD_view (c := ⟨X.K, cl, X.w⟩) (d := d1) (ds' := ds') w1.ph r1 (by rw [hi]; exact e2) (.inl hz) fun v H2 P2 U g2 r2 u1 u2 => ?_
        exact q v H2 P2 S1 U (w1.aside g2 u1 u2 (Rep.there d1 v U r2)) (x1.trans g2.p) r2 fun a o z1 z2 => g2.h a o (k1 a o z1 z2)
    · cases h
end
end LI

namespace LI
open PySem L2

def tN (c : LC) (E : En) (m : RM) : TE := fun σ H Q => ∃ P S T ρ d, Wd c E P S T σ H ρ ∧ m ρ = some d ∧ ∀ v U, Rep c P H d v U → Q v H
section
variable {X : Cx} {cl : Nat → Addr} {E : En} {e a b : Expr} {pos : Pos} {m ma mb mi : RM} {L : Lens}
theorem n_v (i : Nat) {x : Str} (hN : X.N[i]? = some x := by rfl) (hv : Vis X.env.scope x := by first | exact Or.inl rfl | exact Or.inr (Or.inl rfl) | exact Or.inr (Or.inr rfl)) (hd : (x == ("__debug__" : Str)) = false := by decide)
    (hcd : (x == ("__classdict__" : Str)) = false := by decide) : PE X (.Name x pos) (tN ⟨X.K, cl, X.w⟩ E (vM i)) := PE_imp (pe_var hN hv hd hcd) fun σ H Q ⟨P, S, T, ρ, d, w, hm, q⟩ => by
  obtain ⟨h1, h2⟩ := vM_some hm
  obtain ⟨v, T0, hs, r⟩ := slot_val w.env h1 h2
  exact ⟨v, hs, q v T0 r⟩
def idxL (L : Lens) (mi : RM) : Lens := ⟨fun ρ => (L.get ρ).bind fun d => (mi ρ).bind fun i => match d, i with
    | .lst _ ds, .int k => (ixN ds.length k).bind fun j => (ds[j]?).bind fun d => if notGone d = true then some d else none
    | _, _ => none,
  fun ρ d2 => match L.get ρ, mi ρ with
    | some (.lst o ds), some (.int k) => match ixN ds.length k with
      | some j => L.put ρ (.lst o (ds.set j d2))
      | none => ρ
    | _, _ => ρ⟩
theorem idx_split {ρ : List D} {d : D} (h : (idxL L mi).get ρ = some d) : ∃ o ds k j, L.get ρ = some (.lst o ds) ∧ mi ρ = some (.int k) ∧ ixN ds.length k = some j ∧ ds[j]? = some d ∧ notGone d = true ∧ ∀ d2, (idxL L mi).put ρ d2 = L.put ρ (.lst o (ds.set j d2)) := by
  unfold idxL at h
  cases e1 : L.get ρ with
  | none => simp [e1] at h
  | some d0 =>
    cases e0 : mi ρ with
    | none => simp [e1, e0] at h
    | some i =>
      simp only [e1, e0, Option.bind_some] at h
      split at h
      · rename_i o ds k
        cases e2 : ixN ds.length k with
        | none => rw [e2] at h; cases h
        | some j =>
          rw [e2, Option.bind_some] at h
          cases e3 : ds[j]? with
          | none => rw [e3] at h; cases h
          | some d1 =>
            rw [e3, Option.bind_some] at h
            split at h
            · rename_i hn
              cases h
              exact ⟨o, ds, k, j, rfl, rfl, e2, e3, hn, fun d2 => by simp [idxL, e1, e0, e2]⟩
            · cases h
      · cases h
theorem lst_heapP {c : LC} {P H : Hp} (e : Ex P H) {o : Bool} {ds : List D} {v : V} {U : FP} (r : Rep c P H (.lst o ds) v U) : ∃ a xs T Z, v = .ref a ∧ H a = some (.lst xs) ∧ RepL c P H ds xs T ∧ (∀ b, U b = Z b + T b) ∧
    ∀ (P2 H2 : Hp) (ds2 : List D) (T2 : FP), Ex P P2 → (∀ b u, 0 < Z b → H b = some u → H2 b = some u) → RepL c P2 H2 ds2 xs T2 → Rep c P2 H2 (.lst o ds2) v (fa Z T2) := by
  cases o with
  | true =>
    obtain ⟨a, xs, T, e1, h, rl, f⟩ := r
    exact ⟨a, xs, T, one a, e1, h, rl, fun b => by rw [f]; rfl, fun P2 H2 ds2 T2 _ hk r2 => ⟨a, xs, T2, e1, hk a _ (by simp [one]) h, r2, rfl⟩⟩
  | false =>
    obtain ⟨a, xs, e1, h, rl⟩ := r
    exact ⟨a, xs, U, fz, e1, e _ _ h, rl, fun b => by simp [fz], fun P2 H2 ds2 T2 hp _ r2 => ⟨a, xs, e1, hp _ _ h, by rw [fz_fa]; exact r2⟩⟩
theorem p_ix (ha : PE X a (tPl ⟨X.K, cl, X.w⟩ E L)) (hb : PE X b (tN ⟨X.K, cl, X.w⟩ E mi)) (hs : PlainIx b := by exact fun _ _ => rfl) : PE X (.Subscript a b pos) (tPl ⟨X.K, cl, X.w⟩ E (idxL L mi)) :=
  PE_imp (pe_ix ix_seq ha hb hs) fun σ H Q ⟨P, S, T, ρ, d, w, hg, q⟩ => by
    obtain ⟨o, ds, k, j, h1, h2, h3, h4, h5, h6⟩ := idx_split hg
    refine ⟨P, S, T, ρ, _, w, h1, fun v Sd R l => ⟨P, S, T, ρ, _, w, h2, fun y U ry => ?_⟩⟩
    obtain ⟨p, xs, T1, Z, e1, hh, rl, hz, hput⟩ := lst_heapP w.ph l.rep
    obtain ⟨z, S1, R1, k1, k2, k3, k4⟩ := rl.focus h4
    refine .inl ⟨p, xs, k, z, e1, ry.1, .inl (.inl hh), ?_, q z S1 (fa (fa Z R1) R) ⟨fun b => ?_, k2, fun P2 H2 d2 S2 ep kr r2 => ?_⟩⟩
    · unfold atI; rw [← rl.length, h3]; exact k1
    · have := l.sum b; have := hz b; have := k3 b; simp only [fa]; omega
    · rw [h6]
      have rl2 := k4 P2 H2 d2 z S2 ep (fun b u z1 z2 => kr b u (by simp only [fa]; omega) z2) r2
      have e2 : xs.set j z = xs := by
        apply List.ext_getElem?
        intro t
        by_cases ht : t = j
        · subst ht; rw [k1, List.getElem?_set_self (List.getElem?_eq_some_iff.mp k1).1]
        · rw [List.getElem?_set_ne (Ne.symm ht)]
      rw [e2] at rl2
      have := l.put P2 H2 _ _ ep (fun b u z1 z2 => kr b u (by simp only [fa]; omega) z2) (hput P2 H2 _ _ ep (fun b u z1 z2 => kr b u (by simp only [fa]; omega) z2) rl2)
      have e3 : fa (fa Z (fa S2 R1)) R = fa S2 (fa (fa Z R1) R) := by funext b; simp only [fa]; omega
      rw [e3] at this
      exact this
end
end LI
namespace LI
open PySem L2
def tAO (c : LC) (E : En) (m : AGM) : TA := fun σ H Q => ∃ P S T ρ ds ρ', Wd c E P S T σ H ρ ∧ m ρ = some (ds, ρ') ∧
  ∀ vs H' P' S' U, Wd c E P' S' (fa T U) σ H' ρ' → Ex P P' → RepL c P' H' ds vs U → (∀ a o, 0 < T a → H a = some o → H' a = some o) → Q vs H'
def consO (g : GM) (ms : AGM) : AGM := fun ρ => (g ρ).bind fun r => (ms r.2).map fun s => (r.1 :: s.1, s.2)
section
variable {X : Cx} {cl : Nat → Addr} {E : En} {e : Expr} {es : List Expr} {pos p : Pos} {g : GM} {ms : AGM}
theorem ao_nil : PA X [] (tAO ⟨X.K, cl, X.w⟩ E nilG) := PA_imp pa_nil fun σ H Q ⟨P, S, T, ρ, ds, ρ', w, hm, q⟩ => by
  cases hm
  exact q [] H P S fz (by rw [fa_fz]; exact w) (.refl _) ⟨rfl, rfl⟩ fun _ _ _ h => h
theorem ao_cons (h : PE X e (tG ⟨X.K, cl, X.w⟩ E g)) (hr : PA X es (tAO ⟨X.K, cl, X.w⟩ E ms)) (hs : starEach (e :: es) X.env = (false, eval e X.env) :: starEach es X.env := by rfl) : PA X (e :: es) (tAO ⟨X.K, cl, X.w⟩ E (consO g ms)) :=
  PA_imp (pa_cons h hr hs) fun σ H Q ⟨P, S, T, ρ, ds, ρ', w, hm, q⟩ => by
    unfold consO at hm
    cases e1 : g ρ with
    | none => rw [e1] at hm; cases hm
    | some r =>
      obtain ⟨d, ρ1⟩ := r
      rw [e1, Option.bind_some] at hm
      dsimp only at hm
      cases e2 : ms ρ1 with
      | none => rw [e2] at hm; cases hm
      | some s =>
        obtain ⟨ds2, ρ2⟩ := s
        rw [e2] at hm
        cases hm
        refine ⟨P, S, T, ρ, d, ρ1, w, e1, fun v H1 P1 S1 U w1 x1 r1 k1 => ?_⟩
        refine ⟨P1, S1, fa T U, ρ1, ds2, _, w1, e2, fun vs H2 P2 S2 U2 w2 x2 r2 k2 => ?_⟩
        rw [fa_assoc] at w2
        exact q (v :: vs) H2 P2 S2 (fa U U2) w2 (x1.trans x2) ⟨v, vs, U, U2, rfl, Rep.mono x2 d v U (fun a o z h => k2 a o (by simp only [fa]; omega) h) r1, r2, rfl⟩ fun a o z1 z2 => k2 a o (by simp only [fa]; omega) (k1 a o z1 z2)
def lstO (ms : AGM) : GM := fun ρ => (ms ρ).bind fun s => if s.1.length ≤ LIM then some (.lst true s.1, s.2) else none
theorem g_lstO (h : PA X es (tAO ⟨X.K, cl, X.w⟩ E ms)) : PE X (.List es pos) (tG ⟨X.K, cl, X.w⟩ E (lstO ms)) := PE_imp (pe_lst h) fun σ H Q ⟨P, S, T, ρ, d, ρ', w, hm, q⟩ => by
  unfold lstO at hm
  cases e1 : ms ρ with
  | none => rw [e1] at hm; cases hm
  | some s =>
    obtain ⟨ds, ρ1⟩ := s
    rw [e1, Option.bind_some] at hm
    dsimp only at hm
    split at hm
    · rename_i hl
      cases hm
      refine ⟨P, S, T, ρ, ds, _, w, e1, fun vs H1 P1 S1 U w1 x1 r1 k1 => ⟨by rw [← r1.length]; exact lim_le hl, fun p hp => ?_⟩⟩
      have hP : P1 p = none := none_of w1.ph hp
      have hU : ∀ a, 0 < U a → a ≠ p := fun a z e => by
        subst e
        exact RepL.there ds vs U r1 _ z hp
      have g2 : Gr P1 H1 P1 (upd H1 p (.lst vs)) := ⟨.refl _, ex_new hp, w1.ph.trans (ex_new hp), fun _ z => .inl z⟩
      have w2 := w1.aside g2 (U := one p) one_le (fun a z => by rw [one_pos z]; exact ⟨hp, hP⟩) (fun a z => by rw [one_pos z, upd_same]; simp)
      rw [fa_assoc, fa_comm U] at w2
      refine q (.ref p) _ P1 S1 (fa (one p) U) w2 x1 ⟨p, vs, U, rfl, upd_same, RepL.mono (.refl _) ds vs U (fun a o z h => by rw [upd_ne (hU a z)]; exact h) r1, rfl⟩ fun a o z1 z2 => ?_
      have h3 := k1 a o z1 z2
      exact ex_new hp _ _ h3
    · cases hm
end
end LI

namespace LI
open PySem L2

section
variable {X : Cx} {cl : Nat → Addr} {E : En} {e a b o i : Expr} {es : List Expr} {pos p apos : Pos} {m ma mb : RM} {ms : AM} {L : Lens}
end
def putL {κ β : Type} [DecidableEq κ] (ks : List κ) (xs : List β) (k : κ) (y : β) : List κ × List β :=
  if (ks.any fun j => decide (j = k)) = true then (ks, (ks.zip xs).map fun p => if p.1 = k then y else p.2) else (ks ++ [k], xs ++ [y])
end LI

namespace LI
open PySem L2

abbrev Ts := List Char
def eU : Unit → D := fun _ => .non
def eI : Int → D := .int
def eB : Bool → D := .bl
def eS (s : Ts) : D := .str (s.map Char.toNat)
def eC : List Int → D := .scr
def eO {α : Type} (e : α → D) : Option α → D
  | none => .non
  | some x => e x
def eL {α : Type} (o : Bool) (e : α → D) (xs : List α) : D := .lst o (xs.map e)
def e1 {α : Type} (a : α → D) (t : α) : D := .tup [a t]
def e2 {α β : Type} (a : α → D) (b : β → D) (t : α × β) : D := .tup [a t.1, b t.2]
def e3 {α β γ : Type} (a : α → D) (b : β → D) (c : γ → D) (t : α × β × γ) : D := .tup [a t.1, b t.2.1, c t.2.2]
def e4 {α β γ δ : Type} (a : α → D) (b : β → D) (c : γ → D) (d : δ → D) (t : α × β × γ × δ) : D := .tup [a t.1, b t.2.1, c t.2.2.1, d t.2.2.2]
def e5 {α β γ δ ε : Type} (a : α → D) (b : β → D) (c : γ → D) (d : δ → D) (e : ε → D) (t : α × β × γ × δ × ε) : D := .tup [a t.1, b t.2.1, c t.2.2.1, d t.2.2.2.1, e t.2.2.2.2]
structure An where
  d : D
  ng : notGone d = true
  fz : frz d = true
def eA (a : An) : D := a.d

class Ng {α : Type} (e : α → D) : Prop where
  ng : ∀ x, notGone (e x) = true
class Fz {α : Type} (e : α → D) : Prop where
  fz : ∀ x, frz (e x) = true
class Ic {α : Type} (e : α → D) (e' : outParam (α → D)) : Prop where
  ic : ∀ x, ice (e x) = e' x
class Nic {α : Type} (e : α → D) : Prop where
  ni : ∀ x, noIce (e x) = true
theorem nic_map {α : Type} {a : α → D} [Nic a] : ∀ xs : List α, noIceL (xs.map a) = true
  | [] => rfl
  | x :: xs => by rw [List.map_cons, noIceL, Nic.ni x, nic_map xs]; rfl
section
variable {α β γ δ ε ζ : Type} {a : α → D} {b : β → D} {c : γ → D} {d : δ → D} {e : ε → D} {f : ζ → D} {a' : α → D} {b' : β → D} {c' : γ → D} {d' : δ → D} {e' : ε → D} {f' : ζ → D} {o : Bool}
instance : Ng eU := ⟨fun _ => rfl⟩
instance : Ng eI := ⟨fun _ => rfl⟩
instance : Ng eB := ⟨fun _ => rfl⟩
instance : Ng eS := ⟨fun _ => rfl⟩
instance : Ng eC := ⟨fun _ => rfl⟩
instance [Ng a] : Ng (eO a) := ⟨fun x => by cases x with | none => rfl | some x => exact Ng.ng x⟩
instance : Ng (eL o a) := ⟨fun _ => rfl⟩
instance : Ng (e1 a) := ⟨fun _ => rfl⟩
instance : Ng (e2 a b) := ⟨fun _ => rfl⟩
instance : Ng (e3 a b c) := ⟨fun _ => rfl⟩
instance : Ng (e4 a b c d) := ⟨fun _ => rfl⟩
instance : Ng eA := ⟨fun x => x.ng⟩
instance : Nic eI := ⟨fun _ => rfl⟩
instance : Nic eB := ⟨fun _ => rfl⟩
instance : Nic eS := ⟨fun _ => rfl⟩
instance [Nic a] : Nic (eL true a) := ⟨fun x => by unfold eL; rw [noIce, nic_map]; rfl⟩
instance [Nic a] [Nic b] : Nic (e2 a b) := ⟨fun x => by simp [e2, noIce, noIceL, Nic.ni]⟩
instance : Fz eU := ⟨fun _ => rfl⟩
instance : Fz eI := ⟨fun _ => rfl⟩
instance : Fz eB := ⟨fun _ => rfl⟩
instance : Fz eS := ⟨fun _ => rfl⟩
instance : Fz eC := ⟨fun _ => rfl⟩
instance : Fz eA := ⟨fun x => x.fz⟩
theorem fz_map [Fz a] (xs : List α) : frzL (xs.map a) = true := frzL_map.mpr fun x _ => Fz.fz x
instance [Fz a] : Fz (eL false a) := ⟨fun x => by simp [eL, Fz.fz]⟩
instance [Fz a] : Fz (e1 a) := ⟨fun x => by simp [e1, Fz.fz]⟩
instance [Fz a] [Fz b] : Fz (e2 a b) := ⟨fun x => by simp [e2, Fz.fz]⟩
instance [Fz a] [Fz b] [Fz c] : Fz (e3 a b c) := ⟨fun x => by simp [e3, Fz.fz]⟩
instance [Fz a] [Fz b] [Fz c] [Fz d] : Fz (e4 a b c d) := ⟨fun x => by simp [e4, Fz.fz]⟩
instance : Ic eI eI := ⟨fun _ => rfl⟩
instance : Ic eB eB := ⟨fun _ => rfl⟩
instance : Ic eS eS := ⟨fun _ => rfl⟩
instance : Ic eC eC := ⟨fun _ => rfl⟩
instance : Ic eA eA := ⟨fun x => ice_frz _ x.fz⟩
instance [Ic a a'] : Ic (eL o a) (eL false a') := ⟨fun x => by simp [eL, Ic.ic (e := a)]⟩
instance [Ic a a'] [Ic b b'] : Ic (e2 a b) (e2 a' b') := ⟨fun x => by simp [e2, Ic.ic (e := a), Ic.ic (e := b)]⟩
instance [Ic a a'] [Ic b b'] [Ic c c'] : Ic (e3 a b c) (e3 a' b' c') := ⟨fun x => by simp [e3, Ic.ic (e := a), Ic.ic (e := b), Ic.ic (e := c)]⟩
instance [Ic a a'] [Ic b b'] [Ic c c'] [Ic d d'] : Ic (e4 a b c d) (e4 a' b' c' d') := ⟨fun x => by simp [e4, Ic.ic (e := a), Ic.ic (e := b), Ic.ic (e := c), Ic.ic (e := d)]⟩
end

theorem icFst {α β : Type} {a a' : α → D} [Ic a a'] : Ic (fun p : α × β => a p.1) (fun p => a' p.1) := ⟨fun p => Ic.ic (e := a) p.1⟩

theorem toNat_lt (c : Char) : c.toNat < 1114112 := by
  rcases c.valid with h | ⟨_, h⟩
  · have : c.toNat < 55296 := h
    omega
  · exact h
theorem toNat_inj {a b : Char} (h : a.toNat = b.toNat) : a = b := Char.toNat_inj.mp h
class Pe {α : Type} (e : α → D) (n : outParam Nat) where
  p : α → PyData
  to : ∀ x, toP (e x) = some (p x)
  lay : ∀ x, (p x).canLay0 = true
  dep : ∀ x, (p x).depth ≤ n
  eq : ∀ x y, (p x).eqv (p y) = true ↔ x = y
instance : Pe eI 0 := ⟨.int, fun _ => rfl, fun _ => by simp [PyData.canLay0], fun _ => by simp [PyData.depth], fun _ _ => by simp [PyData.eqv]⟩
instance : Pe eB 0 := ⟨.bool, fun _ => rfl, fun _ => by simp [PyData.canLay0], fun _ => by simp [PyData.depth], fun _ _ => by simp [PyData.eqv]⟩
theorem ts_map_inj {x y : Ts} : x.map Char.toNat = y.map Char.toNat ↔ x = y :=
  ⟨fun h => List.map_inj_right (fun _ _ => toNat_inj) |>.mp h, fun h => by rw [h]⟩
instance : Pe eS 0 := ⟨fun s => .str ⟨(s.map Char.toNat).toArray⟩, fun _ => rfl, fun s => by
    simp [PyData.canLay0, PyData.strOk, toNat_lt], fun _ => by simp [PyData.depth], fun x y => by
    have : ((⟨(x.map Char.toNat).toArray⟩ : Str) == ⟨(y.map Char.toNat).toArray⟩) = (x.map Char.toNat == y.map Char.toNat) := str_beq _ _
    simp only [PyData.eqv, this, beq_iff_eq, ts_map_inj]⟩
theorem pe_toL {α : Type} {e : α → D} {n : Nat} [Pe e n] : ∀ xs : List α, toPL (xs.map e) = some (xs.map (Pe.p e))
  | [] => rfl
  | x :: xs => by simp [toPL, Pe.to (e := e) x, pe_toL xs]
theorem pe_lays {α : Type} {e : α → D} {n : Nat} [Pe e n] : ∀ xs : List α, PyData.canLayAll0 (xs.map (Pe.p e)) = true
  | [] => rfl
  | x :: xs => by simp [PyData.canLayAll0, Pe.lay (e := e) x, pe_lays xs]
theorem pe_deps {α : Type} {e : α → D} {n : Nat} [Pe e n] : ∀ xs : List α, PyData.depthAll (xs.map (Pe.p e)) ≤ n
  | [] => Nat.zero_le _
  | x :: xs => by have := Pe.dep (e := e) x; have := pe_deps (e := e) xs; simp [PyData.depthAll]; omega
theorem pe_eqs {α : Type} {e : α → D} {n : Nat} [Pe e n] : ∀ xs ys : List α, PyData.eqvAll (xs.map (Pe.p e)) (ys.map (Pe.p e)) = true ↔ xs = ys
  | [], [] => by simp [PyData.eqvAll]
  | [], y :: ys => by simp [PyData.eqvAll]
  | x :: xs, [] => by simp [PyData.eqvAll]
  | x :: xs, y :: ys => by simp [PyData.eqvAll, Pe.eq (e := e), pe_eqs xs ys]
instance {α : Type} {e : α → D} {n : Nat} {o : Bool} [Pe e n] : Pe (eL o e) (n + 1) := ⟨fun xs => .list (xs.map (Pe.p e)), fun xs => by simp [eL, toP, pe_toL], fun xs => by simp [PyData.canLay0, pe_lays], fun xs => by
  have := pe_deps (e := e) xs; simp [PyData.depth]; omega, fun x y => by simp [PyData.eqv, pe_eqs]⟩
section
variable {α β γ δ ε ζ : Type} {a : α → D} {b : β → D} {c : γ → D} {d : δ → D} {e : ε → D} {f : ζ → D} {na nb nc nd ne nf : Nat}
instance [Pe a na] [Pe b nb] : Pe (e2 a b) (max na nb + 1) := ⟨fun t => .tuple [Pe.p a t.1, Pe.p b t.2], fun t => by simp [e2, toP, toPL, Pe.to (e := a), Pe.to (e := b)], fun t => by simp [PyData.canLay0, PyData.canLayAll0, Pe.lay (e := a), Pe.lay (e := b)], fun t => by
  have h1 := Pe.dep (e := a) t.1; have h2 := Pe.dep (e := b) t.2; simp [PyData.depth, PyData.depthAll]; omega, fun x y => by simp [PyData.eqv, PyData.eqvAll, Pe.eq (e := a), Pe.eq (e := b), Prod.ext_iff]⟩
instance [Pe a na] [Pe b nb] [Pe c nc] [Pe d nd] : Pe (e4 a b c d) (max na (max nb (max nc nd)) + 1) := ⟨fun t => .tuple [Pe.p a t.1, Pe.p b t.2.1, Pe.p c t.2.2.1, Pe.p d t.2.2.2], fun t => by simp [e4, toP, toPL, Pe.to (e := a), Pe.to (e := b), Pe.to (e := c), Pe.to (e := d)], fun t => by simp [PyData.canLay0, PyData.canLayAll0, Pe.lay (e := a), Pe.lay (e := b), Pe.lay (e := c), Pe.lay (e := d)], fun t => by
  have h1 := Pe.dep (e := a) t.1; have h2 := Pe.dep (e := b) t.2.1; have h3 := Pe.dep (e := c) t.2.2.1; have h4 := Pe.dep (e := d) t.2.2.2; simp [PyData.depth, PyData.depthAll]; omega, fun x y => by simp [PyData.eqv, PyData.eqvAll, Pe.eq (e := a), Pe.eq (e := b), Pe.eq (e := c), Pe.eq (e := d), Prod.ext_iff]⟩
end
theorem eqB_ice (x y : D) : eqB x y = eqB (ice x) (ice y) := by unfold eqB; rw [toP_ice, toP_ice]
theorem eqB_pe {α : Type} [DecidableEq α] {e1 e2 e' : α → D} {n : Nat} [Ic e1 e'] [Ic e2 e'] [Pe e' n] (hn : n ≤ 64) (x y : α) : eqB (e1 x) (e2 y) = some (decide (x = y)) := by
  rw [eqB_ice, Ic.ic (e := e1), Ic.ic (e := e2)]
  unfold eqB
  have s : ∀ z, SeqAt.shaped (Pe.p e' z) = true := fun z => by
    have := Pe.dep (e := e') z
    simp [SeqAt.shaped, Pe.lay (e := e') z]; omega
  have q : (Pe.p e' x).eqv (Pe.p e' y) = decide (x = y) := by
    rw [Bool.eq_iff_iff, Pe.eq, decide_eq_true_iff]
  simp only [Pe.to (e := e'), Option.bind_some, s, and_self, if_true, q]
end LI

namespace LI
open PySem L2

def Ev {α : Type} (e : α → D) (m : RM) (ρ : List D) (o : Option α) : Prop := ∀ x, o = some x → m ρ = some (e x)
def Et (m : BM) (ρ : List D) (o : Option Bool) : Prop := ∀ x, o = some x → m ρ = some x
def Eg {α : Type} (e : α → D) (env : α → List D) (g : GM) (ρ : List D) (o : Option α) : Prop := ∀ x, o = some x → g ρ = some (e x, env x)
structure Ea {τ : Type} (e e' : τ → List D) (z : Bool) (ms : AM) (ρ : List D) (o : Option τ) : Prop where
  run : ∀ x, o = some x → ms ρ = some (e x)
  ic : ∀ x, iceL (e x) = e' x
  fz : z = true → ∀ x, frzL (e x) = true
def Ei {α : Type} (e : α → D) (ms : AM) (ρ : List D) (o : Option (List α)) : Prop := ∀ xs, o = some xs → ms ρ = some (xs.map e)
def Eo (m : OM) (ρ : List D) (o : Option (Option Int)) : Prop := ∀ x, o = some x → m ρ = some x

theorem ob_some {α β : Type} {o : Option α} {k : α → Option β} {z : β} (h : o.bind k = some z) : ∃ x, o = some x ∧ k x = some z := by
  cases o with
  | none => cases h
  | some x => exact ⟨x, rfl, h⟩

section
variable {α β γ δ : Type} {a : α → D} {b : β → D} {c : γ → D} {e : α → D} {e' : α → D} {m ma mb mc : RM} {ρ : List D} {o oa : Option α} {ob : Option β} {oc : Option γ}
theorem x_v {i : Nat} (e : α → D) (x : α) [Ng e] (h : ρ[i]? = some (e x)) : Ev e (vM i) ρ (some x) := fun y hy => by
  cases hy; rw [LI.ev_v, h]; simp [Ng.ng]
theorem x_k {d : D} (e : α → D) (x : α) (h : d = e x) : Ev e (kM d) ρ (some x) := fun y hy => by cases hy; rw [LI.ev_k, h]
theorem x_map {e : α → D} {f : β → D} (k : α → β) (hk : ∀ x, f (k x) = e x) (h : Ev e m ρ o) : Ev f m ρ (o.bind fun x => some (k x)) := fun y hy => by
  obtain ⟨x, h1, h2⟩ := ob_some hy; cases h2; rw [h x h1, hk]
theorem x_un {o : Option (Option α)} (h : Ev (eO e) m ρ o) : Ev e m ρ (o.bind fun x => x) := fun y hy => by
  obtain ⟨x, h1, h2⟩ := ob_some hy; rw [h x h1, h2]; rfl
def an {α : Type} (e : α → D) [Ng e] [Fz e] (x : α) : An := ⟨e x, Ng.ng x, Fz.fz x⟩
theorem x_cold [Ic e e'] (h : Ev e m ρ o) : Ev e' (coldM m) ρ o := fun y hy => by rw [LI.ev_cold, h y hy, Option.map_some, Ic.ic]

def O2 (f : D → D → Option D) (a : α → D) (b : β → D) (c : γ → D) (g : α → β → Option γ) : Prop := ∀ x y z, g x y = some z → f (a x) (b y) = some (c z)
def O1 (f : D → Option D) (a : α → D) (c : γ → D) (g : α → Option γ) : Prop := ∀ x z, g x = some z → f (a x) = some (c z)
theorem x_m2 {f : D → D → Option D} {g : α → β → Option γ} (hf : O2 f a b c g) (ha : Ev a ma ρ oa) (hb : Ev b mb ρ ob) : Ev c (m2 f ma mb) ρ (oa.bind fun x => ob.bind fun y => g x y) := fun z hz => by
  obtain ⟨x, h1, h2⟩ := ob_some hz
  obtain ⟨y, h3, h4⟩ := ob_some h2
  rw [LI.ev_m2, ha x h1, Option.bind_some, hb y h3, Option.bind_some, hf x y z h4]
theorem x_m1 {f : D → Option D} {g : α → Option γ} (hf : O1 f a c g) (ha : Ev a ma ρ oa) : Ev c (m1 f ma) ρ (oa.bind g) := fun z hz => by
  obtain ⟨x, h1, h2⟩ := ob_some hz
  rw [LI.ev_m1, ha x h1, Option.bind_some, hf x z h2]
theorem x_a1 {f : List D → Option D} {g : α → Option γ} (hf : O1 (fun d => f [d]) a c g) (ha : Ev a ma ρ oa) : Ev c (mA f (consM ma nilM)) ρ (oa.bind g) := fun z hz => by
  obtain ⟨x, h1, h2⟩ := ob_some hz
  have := hf x z h2
  simp only [ev_mA, LI.ev_cons, ha x h1, Option.bind_some, LI.ev_nil, Option.map_some]
  exact this
theorem o2_tot {f : D → D → Option D} {g : α → β → γ} (h : ∀ x y, f (a x) (b y) = some (c (g x y))) : O2 f a b c (fun x y => some (g x y)) := fun x y z hz => by cases hz; exact h x y
theorem o1_tot {f : D → Option D} {g : α → γ} (h : ∀ x, f (a x) = some (c (g x))) : O1 f a c (fun x => some (g x)) := fun x z hz => by cases hz; exact h x
end

def catS (x y : Ts) : Option Ts := if x.length + y.length ≤ LIM then some (x ++ y) else none
def catL {α : Type} (x y : List α) : Option (List α) := if x.length + y.length ≤ LIM then some (x ++ y) else none
def repL {α : Type} (x : List α) (k : Int) : Option (List α) := if k ≤ 1000000 ∧ -1000000 ≤ k ∧ x.length * k.toNat ≤ LIM then some (List.replicate k.toNat x).flatten else none
def mulT (x y : Int) : Option Int := if (-(2 ^ 64) < x ∧ x < 2 ^ 64) ∨ (-(2 ^ 64) < y ∧ y < 2 ^ 64) then some (x * y) else none
theorem o2_addI : O2 addD eI eI eI (fun x y => some (x + y)) := o2_tot fun _ _ => rfl
theorem o2_catS : O2 addD eS eS eS catS := fun x y z h => by
  unfold catS at h; split at h
  · cases h; simp [eS, addD, *]
  · cases h
theorem o2_catL {α : Type} {a : α → D} [Fz a] {o p : Bool} : O2 addD (eL o a) (eL p a) (eL true a) catL := fun x y z h => by
  unfold catL at h; split at h
  · cases h; simp [eL, addD, *, Fz.fz]
  · cases h
theorem o2_subI : O2 subD eI eI eI (fun x y => some (x - y)) := o2_tot fun _ _ => rfl
theorem o2_mul : O2 mulD eI eI eI mulT := fun x y z h => by
  unfold mulT at h; split at h
  · cases h; rename_i q; exact if_pos q
  · cases h
theorem o2_repL {α : Type} {a : α → D} [Fz a] {o : Bool} : O2 mulD (eL o a) eI (eL true a) repL := fun x y z h => by
  unfold repL at h; split at h
  · cases h; rename_i q; simp [eL, eI, mulD, q, Fz.fz]
  · cases h
theorem o1_neg : O1 negD eI eI (fun x => some (-x)) := o1_tot fun _ => rfl
section
variable {α β : Type} {e : α → D} {m ma mb : RM} {ρ : List D} {oa ob : Option Int}
def b64 (k : Int) : Bool := decide (-18446744073709551616 < k) && decide (k < 18446744073709551616)
theorem b64_in {k : Int} (h : b64 k = true) : -(2 ^ 64) < k ∧ k < 2 ^ 64 := by
  unfold b64 at h; simp at h; exact ⟨by omega, by omega⟩
theorem x_mulR (k : Int) (hk : b64 k = true) (ha : Ev eI ma ρ oa) : Ev eI (m2 mulD ma (kM (.int k))) ρ (oa.bind fun x => some (x * k)) := fun z hz => by
  obtain ⟨x, h1, h2⟩ := ob_some hz; cases h2
  rw [LI.ev_m2, ha x h1]; exact if_pos (.inr (b64_in hk))
theorem log_lt {k : Int} (h : b64 k = true) : k.natAbs.log2 < 9000 := by
  have := b64_in h
  by_cases z : k.natAbs = 0
  · rw [z]; decide
  · have h1 : k.natAbs < 2 ^ 9000 := Nat.lt_of_lt_of_le (show k.natAbs < 2 ^ 65 by omega) (Nat.pow_le_pow_right (by decide) (by decide))
    exact (Nat.log2_lt z).mpr h1
theorem x_modP (k : Int) {mk : RM} (hk : decide (0 < k) = true) (ha : Ev eI ma ρ oa) (hm : Ev eI mk ρ (some k)) : Ev eI (m2 modD ma mk) ρ (oa.bind fun x => some (x % k)) := fun z hz => by
  obtain ⟨x, h1, h2⟩ := ob_some hz; cases h2
  rw [LI.ev_m2, ha x h1, hm k rfl]; exact if_pos (of_decide_eq_true hk)
theorem x_fdivP (k : Int) {mk : RM} (hk : (decide (0 < k) && b64 k) = true) (ha : Ev eI ma ρ oa) (hm : Ev eI mk ρ (some k)) : Ev eI (m2 fdivD ma mk) ρ (oa.bind fun x => some (x / k)) := fun z hz => by
  obtain ⟨x, h1, h2⟩ := ob_some hz; cases h2
  simp only [Bool.and_eq_true] at hk
  rw [LI.ev_m2, ha x h1, hm k rfl]; exact if_pos ⟨of_decide_eq_true hk.1, log_lt hk.2⟩
theorem x_pow (x y c : Int) (h : (decide (0 ≤ y) && decide (y ≤ 1000000) && b64 x && (x ^ y.toNat == c)) = true) : Ev eI (m2 powD (kM (.int x)) (kM (.int y))) ρ (some c) := fun z hz => by
  cases hz
  simp only [Bool.and_eq_true, beq_iff_eq] at h
  obtain ⟨⟨⟨h1, h2⟩, h3⟩, h4⟩ := h
  have := b64_in h3
  rw [LI.ev_m2, LI.ev_k, LI.ev_k, Option.bind_some, Option.bind_some, pow_int, if_pos ⟨of_decide_eq_true h1, of_decide_eq_true h2, by omega⟩, h4]; rfl
end

def ltS (x y : Ts) : Bool := decide (x.map Char.toNat < y.map Char.toNat)
theorem o2_ltI : O2 ltD eI eI eB (fun x y => some (decide (x < y))) := o2_tot fun _ _ => rfl
theorem o2_leI : O2 leD eI eI eB (fun x y => some (decide (x ≤ y))) := o2_tot fun _ _ => rfl
theorem o2_gtI : O2 gtD eI eI eB (fun x y => some (decide (y < x))) := o2_tot fun _ _ => rfl
theorem o2_leS : O2 leD eS eS eB (fun x y => some (!ltS y x)) := o2_tot fun _ _ => rfl
theorem o2_eq {α : Type} [DecidableEq α] {a b e' : α → D} {n : Nat} [Ic a e'] [Ic b e'] [Pe e' n] (hn : n ≤ 64) : O2 eqD a b eB (fun x y => some (decide (x = y))) := o2_tot fun x y => by
  unfold eqD; rw [eqB_pe (e' := e') hn]; rfl
theorem o2_ne {α : Type} [DecidableEq α] {a b e' : α → D} {n : Nat} [Ic a e'] [Ic b e'] [Pe e' n] (hn : n ≤ 64) : O2 neD a b eB (fun x y => some (!decide (x = y))) := o2_tot fun x y => by
  unfold neD; rw [eqB_pe (e' := e') hn]; rfl
class No {α : Type} (e : α → D) : Prop where
  no : ∀ x, isNo (e x) = some false
section
variable {α β γ δ ε ζ : Type} {a : α → D} {b : β → D} {c : γ → D} {d : δ → D} {e : ε → D} {f : ζ → D} {o : Bool}
instance : No (e3 a b c) := ⟨fun _ => rfl⟩
theorem o2_nisN [No a] : O2 nisD (eO a) eU eB (fun x _ => some x.isSome) := o2_tot fun x y => by
  cases x with
  | none => rfl
  | some x => simp [eO, eU, nisD, No.no]; rfl
end

section
variable {α : Type} {e : α → D} {m ma mb mc : RM} {ρ : List D} {o : Option α} {x y : Bool} {ta tb : BM} {oa ob : Option Bool}
theorem et_b {o : Option Bool} (h : Ev eB m ρ o) : Et (bM m) ρ o := fun z hz => by rw [ev_bM, h z hz]; rfl
theorem et_not (h : Et ta ρ oa) : Et (notB ta) ρ (oa.bind fun b => some (!b)) := fun z hz => by
  obtain ⟨x, h1, h2⟩ := ob_some hz; cases h2; rw [ev_notB, h x h1]; rfl
theorem et_and (h : Et ta ρ oa) (k : Et tb ρ ob) : Et (andB ta tb) ρ (oa.bind fun b => if b = true then ob else some false) := fun z hz => by
  obtain ⟨x, h1, h2⟩ := ob_some hz
  rw [ev_andB, h x h1, Option.bind_some]
  cases x with
  | true => rw [if_pos rfl] at h2 ⊢; exact k z h2
  | false => simpa using h2
theorem et_or (h : Et ta ρ oa) (k : Et tb ρ ob) : Et (orB ta tb) ρ (oa.bind fun b => if b = true then some true else ob) := fun z hz => by
  obtain ⟨x, h1, h2⟩ := ob_some hz
  rw [ev_orB, h x h1, Option.bind_some]
  cases x with
  | true => simpa using h2
  | false => simp at h2 ⊢; exact k z h2
theorem et_andT (h : Et ta ρ (some x)) (k : Et tb ρ (some y)) : Et (andB ta tb) ρ (some (x && y)) := fun z hz => by
  cases hz; rw [ev_andB, h x rfl, Option.bind_some]; cases x <;> simp [k y rfl]
theorem et_orT (h : Et ta ρ (some x)) (k : Et tb ρ (some y)) : Et (orB ta tb) ρ (some (x || y)) := fun z hz => by
  cases hz; rw [ev_orB, h x rfl, Option.bind_some]; cases x <;> simp [k y rfl]
theorem x_and (h : Ev eB ma ρ oa) (k : Ev eB mb ρ ob) : Ev eB (andM ma mb) ρ (oa.bind fun b => if b = true then ob else some false) := fun z hz => by
  obtain ⟨x, h1, h2⟩ := ob_some hz
  rw [ev_andM, et_b h x h1, Option.bind_some]
  cases x with
  | true => rw [if_pos rfl] at h2 ⊢; exact k z h2
  | false => simp at h2; subst h2; rfl
theorem x_andT (h : Ev eB ma ρ (some x)) (k : Ev eB mb ρ (some y)) : Ev eB (andM ma mb) ρ (some (x && y)) := fun z hz => by
  cases hz; rw [ev_andM, et_b h x rfl, Option.bind_some]; cases x <;> simp [k y rfl] <;> rfl
theorem x_orT (h : Ev eB ma ρ (some x)) (k : Ev eB mb ρ (some y)) : Ev eB (orM ma mb) ρ (some (x || y)) := fun z hz => by
  cases hz; rw [ev_orM, et_b h x rfl, Option.bind_some]; cases x <;> simp [k y rfl] <;> rfl
class Tr {α : Type} (e : α → D) (t : outParam (α → Option Bool)) : Prop where
  tr : ∀ x z, t x = some z → truD (e x) = some z
instance : Tr eB (fun x => some x) := ⟨fun x z h => by cases h; rfl⟩
theorem et_tru {t : α → Option Bool} [Tr e t] (h : Ev e m ρ o) : Et (truM m) ρ (o.bind t) := fun z hz => by
  obtain ⟨x, h1, h2⟩ := ob_some hz; rw [ev_tru, h x h1]; exact Tr.tr x z h2
theorem x_not {t : α → Option Bool} [Tr e t] (h : Ev e m ρ o) : Ev eB (notD m) ρ ((o.bind t).bind fun b => some (!b)) := fun z hz => by
  obtain ⟨y, h1, h2⟩ := ob_some hz; cases h2
  have := et_tru (t := t) h y h1
  rw [ev_tru] at this
  rw [ev_notD, this]; rfl
end
section
variable {α β γ : Type} {a : α → D} {b : β → D} {c : γ → D} {f g : D → D → Option D} {ma mb mc : RM} {ρ : List D} {oa : Option α} {ob : Option β} {oc : Option γ}
theorem x_ch {p : α → β → Option Bool} {q : β → γ → Option Bool} (hf : O2 f a b eB p) (hg : O2 g b c eB q) (ha : Ev a ma ρ oa) (hb : Ev b mb ρ ob) (hc : Ev c mc ρ oc) :
    Ev eB (chM f g ma mb mc) ρ (oa.bind fun x => ob.bind fun y => (p x y).bind fun k => if k = true then oc.bind fun z => q y z else some false) := fun z hz => by
  obtain ⟨x, h1, h2⟩ := ob_some hz
  obtain ⟨y, h3, h4⟩ := ob_some h2
  obtain ⟨k, h5, h6⟩ := ob_some h4
  rw [LI.ev_ch, ha x h1, Option.bind_some, hb y h3, Option.bind_some, hf x y k h5, Option.bind_some]
  cases k with
  | false => simp at h6; subst h6; rfl
  | true =>
    rw [if_pos rfl] at h6
    obtain ⟨u, h7, h8⟩ := ob_some h6
    show (mc ρ).bind _ = _
    rw [hc u h7, Option.bind_some, hg y u z h8]
theorem x_chT {p : α → β → Bool} {q : β → γ → Bool} {x : α} {y : β} {z : γ} (hf : O2 f a b eB (fun x y => some (p x y))) (hg : O2 g b c eB (fun x y => some (q x y))) (ha : Ev a ma ρ (some x)) (hb : Ev b mb ρ (some y)) (hc : Ev c mc ρ (some z)) :
    Ev eB (chM f g ma mb mc) ρ (some (p x y && q y z)) := fun u hu => by
  cases hu
  have := x_ch hf hg ha hb hc (p x y && q y z) (by cases h : p x y <;> simp [h])
  exact this
end

def ixS (s : Ts) (i : Int) : Option Ts := if s.length ≤ LIM then (atI s i).map fun c => [c] else none
theorem o2_ixL {α : Type} {a : α → D} {o : Bool} : O2 ixD (eL o a) eI a (fun xs i => atI xs i) := fun x y z h => by
  show atI (x.map a) y = _
  rw [atI_map]; simp [h]
theorem o2_ixC : O2 ixD eC eI eI (fun xs i => atI xs i) := fun x y z h => by show (atI x y).map D.int = _; simp [h]; rfl
theorem o2_ixS : O2 ixD eS eI eS ixS := fun x y z h => by
  unfold ixS at h; split at h
  · rename_i q
    cases w : atI x y with
    | none => rw [w] at h; cases h
    | some c =>
      rw [w] at h; cases h
      show (if (x.map Char.toNat).length ≤ LIM then (atI (x.map Char.toNat) y).map fun k => D.str [k] else none) = _
      rw [if_pos (by simpa using q), atI_map, w]; rfl
  · cases h
theorem x_pr {α β : Type} {e : α → D} {f : β → D} {m : RM} {ρ : List D} {o : Option α} (k : Int) (p : α → β) (hp : ∀ x, ixD (e x) (.int k) = some (f (p x))) (h : Ev e m ρ o) : Ev f (m2 ixD m (kM (.int k))) ρ (o.bind fun x => some (p x)) := fun z hz => by
  obtain ⟨x, h1, h2⟩ := ob_some hz; cases h2
  rw [LI.ev_m2, h x h1, Option.bind_some, LI.ev_k, Option.bind_some, hp]
theorem eo_no {ρ : List D} : Eo noM ρ (some none) := fun x h => by cases h; rfl
theorem eo_so {m : RM} {ρ : List D} {o : Option Int} (h : Ev eI m ρ o) : Eo (soM m) ρ (o.bind fun x => some (some x)) := fun z hz => by
  obtain ⟨x, h1, h2⟩ := ob_some hz; cases h2
  rw [ev_soM, h x h1]; rfl
def slS (lo hi : Option Int) (s : Ts) : Option Ts := if s.length ≤ LIM then some (cutL s lo hi) else none
class Sl {α : Type} {β : outParam Type} (e : α → D) (f : outParam (β → D)) (g : outParam (Option Int → Option Int → α → Option β)) : Prop where
  sl : ∀ lo hi x z, g lo hi x = some z → slD lo hi (e x) = some (f z)
instance {α : Type} {a : α → D} {o : Bool} [Fz a] : Sl (eL o a) (eL true a) (fun lo hi xs => some (cutL xs lo hi)) := ⟨fun lo hi x z h => by cases h; simp [eL, slD, Fz.fz, cutL_map]⟩
instance : Sl eC (eL true eI) (fun lo hi xs => some (cutL xs lo hi)) := ⟨fun lo hi x z h => by cases h; rfl⟩
instance : Sl eS eS slS := ⟨fun lo hi x z h => by
  unfold slS at h; split at h
  · cases h; simp [eS, slD, *, cutL_map]
  · cases h⟩
theorem x_sl {α β : Type} {e : α → D} {f : β → D} {g : Option Int → Option Int → α → Option β} [Sl e f g] {m : RM} {lo hi : OM} {ρ : List D} {o : Option α} {ol oh : Option (Option Int)} (h : Ev e m ρ o) (hl : Eo lo ρ ol) (hh : Eo hi ρ oh) :
    Ev f (slM m lo hi) ρ (o.bind fun x => ol.bind fun l => oh.bind fun h => g l h x) := fun z hz => by
  obtain ⟨x, h1, h2⟩ := ob_some hz
  obtain ⟨y, h3, h4⟩ := ob_some h2
  obtain ⟨u, h5, h6⟩ := ob_some h4
  rw [ev_slM, h x h1, Option.bind_some, hl y h3, Option.bind_some, hh u h5, Option.bind_some, Sl.sl y u x z h6]
def eV {α : Type} (e : α → D) (xs : List α) : D := .tup (xs.map e)
def inS (x z : Ts) : Option Bool := match x with | [c] => some (decide (c ∈ z)) | _ => none
theorem mem_toNat {c : Char} {z : Ts} : c.toNat ∈ z.map Char.toNat ↔ c ∈ z := by
  rw [List.mem_map]
  exact ⟨fun ⟨x, h1, h2⟩ => toNat_inj h2 ▸ h1, fun h => ⟨c, h, rfl⟩⟩
theorem inB_S {x z : Ts} {k : Bool} (h : inS x z = some k) : inB (eS x) (eS z) = some k := by
  unfold inS at h
  split at h
  · cases h
    show some (decide (Char.toNat _ ∈ z.map Char.toNat)) = _
    congr 1
    exact decide_eq_decide.mpr mem_toNat
  · cases h
def memT {α : Type} [DecidableEq α] (x : α) (xs : List α) : Bool := decide (x ∈ xs)
class In {α β : Type} (a : α → D) (b : β → D) (g : outParam (α → β → Option Bool)) : Prop where
  is : ∀ x y k, g x y = some k → inB (a x) (b y) = some k
instance : In eS eS inS := ⟨fun _ _ _ h => inB_S h⟩
class Ef {α : Type} (e : α → D) : Prop where
  fl : ∀ x, flatD (e x) = true
  eq : ∀ x y, eqF (e x) (e y) = true ↔ x = y
instance : Ef eS := ⟨fun _ => rfl, fun x y => by simp [eS, eqF]; exact ts_map_inj⟩
theorem in_flat {α : Type} [DecidableEq α] {e : α → D} [Ef e] (x : α) (xs : List α) : ((xs.map e).any fun y => eqF y (e x)) = decide (x ∈ xs) := by
  rw [Bool.eq_iff_iff]
  simp only [List.any_eq_true, List.mem_map, decide_eq_true_iff]
  exact ⟨fun ⟨_, ⟨y, h1, h2⟩, h3⟩ => by rw [← h2, Ef.eq] at h3; rw [← h3]; exact h1, fun h => ⟨_, ⟨x, h, rfl⟩, (Ef.eq x x).mpr rfl⟩⟩
instance {α : Type} [DecidableEq α] {e : α → D} [Ef e] : In e (eV e) (fun x xs => some (memT x xs)) := ⟨fun x y k h => by
  cases h; unfold memT
  have q : inB (e x) (eV e y) = if flatD (e x) = true ∧ (y.map e).all flatD = true then some ((y.map e).any fun z => eqF z (e x)) else none := by
    unfold eV
    cases h : e x <;> try rfl
    rename_i s
    rcases s with _ | ⟨c, _ | ⟨c2, t⟩⟩ <;> rfl
  rw [q, if_pos ⟨Ef.fl x, by simp [Ef.fl]⟩, in_flat]⟩
theorem o2_in {α β : Type} {a : α → D} {b : β → D} {g : α → β → Option Bool} [In a b g] : O2 inD a b eB g := fun x y z h => by
  unfold inD; rw [In.is x y z h]; rfl
theorem o2_nin {α β : Type} {a : α → D} {b : β → D} {g : α → β → Option Bool} [In a b g] : O2 ninD a b eB (fun x y => (g x y).bind fun k => some (!k)) := fun x y z h => by
  obtain ⟨k, h1, h2⟩ := ob_some h; cases h2
  unfold ninD; rw [In.is x y k h1]; rfl
def lenS (s : Ts) : Option Int := if s.length ≤ LIM then some (s.length : Int) else none
theorem o1_lenL {α : Type} {a : α → D} {o : Bool} : O1 (fun d => lenD [d]) (eL o a) eI (fun xs => some (xs.length : Int)) := o1_tot fun x => by simp [eL, lenD]; rfl
theorem o1_lenC : O1 (fun d => lenD [d]) eC eI (fun xs => some (xs.length : Int)) := o1_tot fun x => rfl
theorem o1_lenS : O1 (fun d => lenD [d]) eS eI lenS := fun x z h => by
  unfold lenS at h; split at h
  · cases h; simp [eS, lenD, *]; rfl
  · cases h
theorem o1_lenK {α : Type} {a : α → D} {n : Int} (h : ∀ x, lenD [a x] = some (.int n)) : O1 (fun d => lenD [d]) a eI (fun _ => some n) := o1_tot fun x => h x
def b01 (b : Bool) : Int := if b = true then 1 else 0
theorem o1_intB : O1 (fun d => intD [d]) eB eI (fun x => some (b01 x)) := o1_tot fun _ => rfl
theorem o1_listL {α : Type} {a : α → D} [Fz a] {o : Bool} : O1 (fun d => listD [d]) (eL o a) (eL true a) (fun x => some x) := o1_tot fun x => by simp [eL, listD, Fz.fz]
theorem x_isi {α : Type} {e : α → D} {ty : String} {m : RM} {ρ : List D} {o : Option α} (k : α → Bool) (hk : ∀ x, ((tyD (e x)).bind fun t => kitB t ty) = some (k x)) (h : Ev e m ρ o) : Ev eB (isiM ty m) ρ (o.bind fun x => some (k x)) := fun z hz => by
  obtain ⟨x, h1, h2⟩ := ob_some hz; cases h2
  have := hk x
  rw [LI.ev_isi, h x h1, Option.bind_some]
  cases w : tyD (e x) with
  | none => rw [w] at this; cases this
  | some t => rw [w, Option.bind_some] at this; rw [Option.bind_some, this]; rfl
def isiA (ty : String) (x : An) : Option Bool := (tyD x.d).bind fun t => kitB t ty
theorem x_isiA {ty : String} {m : RM} {ρ : List D} {o : Option An} (h : Ev eA m ρ o) : Ev eB (isiM ty m) ρ (o.bind fun x => isiA ty x) := fun z hz => by
  obtain ⟨x, h1, h2⟩ := ob_some hz
  unfold isiA at h2
  rw [LI.ev_isi, h x h1, Option.bind_some]
  show ((tyD x.d).bind fun t => (kitB t ty).map D.bl) = _
  cases w : tyD x.d with
  | none => rw [w] at h2; cases h2
  | some t => rw [w, Option.bind_some] at h2; rw [Option.bind_some, h2]; rfl

section
variable {α τ β : Type} {e e' : α → D} {et et' : τ → List D} {z : Bool} {m : RM} {ms : AM} {ρ : List D} {o : Option α} {os : Option τ}
theorem ea_nil : Ea (τ := Unit) (fun _ => []) (fun _ => []) true nilM ρ (some ()) := ⟨fun x h => by cases h; rfl, fun _ => rfl, fun _ _ => rfl⟩
theorem ea_cons [Ic e e'] [Fz e] (h : Ev e m ρ o) (hs : Ea et et' z ms ρ os) : Ea (fun t : α × τ => e t.1 :: et t.2) (fun t => e' t.1 :: et' t.2) z (consM m ms) ρ (o.bind fun x => os.bind fun xs => some (x, xs)) :=
  ⟨fun x hx => by
    obtain ⟨y, h1, h2⟩ := ob_some hx
    obtain ⟨ys, h3, h4⟩ := ob_some h2
    cases h4
    rw [LI.ev_cons, h y h1, Option.bind_some, hs.run ys h3]; rfl, fun x => by rw [iceL_cons, Ic.ic (e := e), hs.ic], fun hz x => by rw [fzL_cons, Fz.fz, hs.fz hz]; rfl⟩
theorem ea_consW [Ic e e'] (h : Ev e m ρ o) (hs : Ea et et' z ms ρ os) : Ea (fun t : α × τ => e t.1 :: et t.2) (fun t => e' t.1 :: et' t.2) false (consM m ms) ρ (o.bind fun x => os.bind fun xs => some (x, xs)) :=
  ⟨fun x hx => by
    obtain ⟨y, h1, h2⟩ := ob_some hx
    obtain ⟨ys, h3, h4⟩ := ob_some h2
    cases h4
    rw [LI.ev_cons, h y h1, Option.bind_some, hs.run ys h3]; rfl, fun x => by rw [iceL_cons, Ic.ic (e := e), hs.ic], fun hz => by cases hz⟩
theorem x_tup {f : β → D} (k : τ → β) (hs : Ea et et' true ms ρ os) (hk : ∀ t, f (k t) = .tup (et t)) (hl : ∀ t, (et t).length ≤ LIM) : Ev f (tupM ms) ρ (os.bind fun t => some (k t)) := fun x hx => by
  obtain ⟨t, h1, h2⟩ := ob_some hx; cases h2
  rw [LI.ev_tup, hs.run t h1, Option.bind_some, if_pos ⟨hs.fz rfl t, hl t⟩, hk]
theorem x_lst {f : β → D} (k : τ → β) (hs : Ea et et' true ms ρ os) (hk : ∀ t, f (k t) = .lst true (et t)) (hl : ∀ t, (et t).length ≤ LIM) : Ev f (lstM ms) ρ (os.bind fun t => some (k t)) := fun x hx => by
  obtain ⟨t, h1, h2⟩ := ob_some hx; cases h2
  rw [LI.ev_lst, hs.run t h1, Option.bind_some, if_pos ⟨hs.fz rfl t, hl t⟩, hk]
def Tf {σ : Type} (et' : τ → List D) (er : σ → D) (F : FM) (t : τ → Option σ) : Prop := ∀ x r, t x = some r → ∃ ds', F (et' x) = some (er r, ds')
theorem x_call {σ : Type} {er : σ → D} {F : FM} {t : τ → Option σ} (hT : Tf et' er F t) (hs : Ea et et' true ms ρ os) : Ev er (callM F ms) ρ (os.bind t) := fun r hr => by
  obtain ⟨x, h1, h2⟩ := ob_some hr
  obtain ⟨ds', h3⟩ := hT x r h2
  rw [LI.ev_call, hs.run x h1, Option.bind_some, hs.ic, h3, Option.bind_some, if_pos (.inl (hs.fz rfl x))]
theorem x_callF {σ : Type} {er : σ → D} {F : FM} {t : τ → Option σ} [Nic er] (hT : Tf et' er F t) (hs : Ea et et' z ms ρ os) : Ev er (callM F ms) ρ (os.bind t) := fun r hr => by
  obtain ⟨x, h1, h2⟩ := ob_some hr
  obtain ⟨ds', h3⟩ := hT x r h2
  rw [LI.ev_call, hs.run x h1, Option.bind_some, hs.ic, h3, Option.bind_some, if_pos (.inr (Nic.ni r))]
theorem x_callV {σ : Type} {er : σ → D} {F : FM} {t : τ → Option σ} (hT : Tf et' er F t) (hs : Ea et et' z ms ρ os) : Ev er (callVM F ms) ρ (os.bind t) := fun r hr => by
  obtain ⟨x, h1, h2⟩ := ob_some hr
  obtain ⟨ds', h3⟩ := hT x r h2
  rw [LI.ev_callV, hs.run x h1, Option.bind_some, hs.ic, h3]; rfl
end

def rngT (n : Int) : Option (List Int) := if -(2 ^ 62) ≤ n ∧ n < 2 ^ 62 then some ((List.range n.toNat).map fun (k : Nat) => (k : Int)) else none
def enumT {α : Type} (n : Nat) : List α → List (Int × α)
  | [] => []
  | x :: xs => ((n : Int), x) :: enumT (n + 1) xs
theorem enum_map {α : Type} (e : α → D) : ∀ (n : Nat) (xs : List α), enumFrom n (xs.map e) = (enumT n xs).map (e2 eI e)
  | _, [] => rfl
  | n, x :: xs => by rw [List.map_cons, enumFrom, enum_map e (n + 1) xs]; rfl
theorem zip_map {α β : Type} (a : α → D) (b : β → D) : ∀ (xs : List α) (ys : List β), zipD (xs.map a) (ys.map b) = (xs.zip ys).map (e2 a b)
  | [], [] => rfl
  | [], _ :: _ => rfl
  | _ :: _, [] => rfl
  | x :: xs, y :: ys => by rw [List.map_cons, List.map_cons, zipD, zip_map a b xs ys]; rfl
class It1 {α : Type} {β : outParam Type} (e : α → D) (f : outParam (β → D)) (g : outParam (α → List β)) : Prop where
  it : ∀ x, itemsV (e x) = some ((g x).map f)
  fr : ∀ x, frz (e x) = true → itemsD (e x) = some ((g x).map f)
class Ls1 {α : Type} {β : outParam Type} (e : α → D) (f : outParam (β → D)) (g : outParam (α → List β)) : Prop where
  ls : ∀ x, lstD (e x) = some ((g x).map f)
def chars (s : Ts) : List Ts := s.map fun c => [c]
instance {α : Type} {a : α → D} [Fz a] {o : Bool} : It1 (eL o a) a (fun x => x) := ⟨fun x => by simp [eL, itemsV, Fz.fz], fun x h => by
  cases o with
  | true => simp [eL] at h
  | false => simp [eL, itemsD, Fz.fz]⟩
instance {α : Type} {a : α → D} [Fz a] : It1 (eV a) a (fun x => x) := ⟨fun x => by simp [eV, itemsV, itemsD, Fz.fz], fun x h => by simp [eV, itemsD, Fz.fz]⟩
theorem chars_map (s : Ts) : strsD (s.map Char.toNat) = (chars s).map eS := by
  unfold strsD chars; rw [List.map_map, List.map_map]; rfl
instance : It1 eS eS chars := ⟨fun x => by show some (strsD _) = _; rw [chars_map], fun x _ => by show some (strsD _) = _; rw [chars_map]⟩
instance {α : Type} {a : α → D} [Fz a] : Ls1 (eL false a) a (fun x => x) := ⟨fun x => by simp [eL, lstD, Fz.fz]⟩
section
variable {α β γ δ : Type} {e : α → D} {f : β → D} {g : α → List β} {m ma mb : RM} {ρ : List D} {o : Option α}
theorem ei_it [It1 e f g] [Fz e] (h : Ev e m ρ o) : Ei f (itM m) ρ (o.bind fun x => some (g x)) := fun z hz => by
  obtain ⟨x, h1, h2⟩ := ob_some hz; cases h2
  rw [ev_it, h x h1]; exact It1.fr x (Fz.fz x)
theorem ei_itV [It1 e f g] (h : Ev e m ρ o) : Ei f (itV m) ρ (o.bind fun x => some (g x)) := fun z hz => by
  obtain ⟨x, h1, h2⟩ := ob_some hz; cases h2
  rw [ev_itV, h x h1]; exact It1.it x
theorem ei_rng1 {o : Option Int} (h : Ev eI m ρ o) : Ei eI (rng1M m) ρ (o.bind rngT) := fun z hz => by
  obtain ⟨x, h1, h2⟩ := ob_some hz
  unfold rngT at h2; split at h2
  · rename_i q
    cases h2
    rw [ev_rng1, h x h1]
    show rng1D (.int x) = _
    show (if -(2 ^ 62) ≤ x ∧ x < 2 ^ 62 then some (upD 0 x.toNat) else none) = _
    rw [if_pos q, upD0, List.map_map]; rfl
  · cases h2
theorem ei_enumS {o : Option Ts} (h : Ev eS m ρ o) : Ei (e2 eI eS) (enumSM m) ρ (o.bind fun x => some (enumT 0 (chars x))) := fun z hz => by
  obtain ⟨x, h1, h2⟩ := ob_some hz; cases h2
  rw [ev_enumS, h x h1, Option.bind_some]
  show some (enumFrom 0 (strsD (x.map Char.toNat))) = _
  rw [chars_map, enum_map]
theorem ei_zip {a : γ → D} {b : δ → D} {ga : α → List γ} {gb : β → List δ} {f : β → D} {ob : Option β} [Ls1 e a ga] [Ls1 f b gb] (h : Ev e ma ρ o) (k : Ev f mb ρ ob) : Ei (e2 a b) (zipM ma mb) ρ (o.bind fun x => ob.bind fun y => some ((ga x).zip (gb y))) := fun z hz => by
  obtain ⟨x, h1, h2⟩ := ob_some hz
  obtain ⟨y, h3, h4⟩ := ob_some h2
  cases h4
  rw [ev_zip, h x h1, Option.bind_some, k y h3, Option.bind_some, Ls1.ls x, Option.bind_some, Ls1.ls y, Option.map_some, zip_map]
end
def compG {α β : Type} (p : α → Option Bool) (g : α → Option β) : List α → Option (List β)
  | [] => some []
  | x :: xs => (p x).bind fun k => if k = true then (g x).bind fun y => (compG p g xs).bind fun ys => some (y :: ys) else compG p g xs
def compT {α β : Type} (p : α → Option Bool) (g : α → Option β) (xs : List α) : Option (List β) := if xs.length ≤ LIM then compG p g xs else none
theorem compL_T {α β : Type} {e : α → D} {f : β → D} [Fz f] {t : TgM} {mc : BM} {me : RM} {ρ0 : List D} {env : α → List D} {p : α → Option Bool} {g : α → Option β} (ht : ∀ x, t (e x) ρ0 = some (env x)) (hc : ∀ x, Et mc (env x) (p x)) (he : ∀ x, Ev f me (env x) (g x)) :
    ∀ (xs : List α) (ys : List β), compG p g xs = some ys → compL t mc me ρ0 (xs.map e) = some (ys.map f)
  | [], ys, h => by cases h; rfl
  | x :: xs, ys, h => by
    obtain ⟨k, h1, h2⟩ := ob_some h
    rw [List.map_cons, compL, ht, Option.bind_some, hc x k h1, Option.bind_some]
    cases k with
    | true =>
      rw [if_pos rfl] at h2 ⊢
      obtain ⟨y, h3, h4⟩ := ob_some h2
      obtain ⟨zs, h5, h6⟩ := ob_some h4
      cases h6
      rw [he x y h3, Option.bind_some, if_pos (Fz.fz y), compL_T ht hc he xs zs h5]; rfl
    | false =>
      simp only [if_neg Bool.false_ne_true] at h2 ⊢
      exact compL_T ht hc he xs ys h2
theorem x_comp {α β : Type} {e : α → D} {f : β → D} [Fz f] {vs : List Nat} {t : TgM} {mc : BM} {me : RM} {ms : AM} {ρ : List D} {p : α → Option Bool} {g : α → Option β} {o : Option (List α)} (env : α → List D) (hi : Ei e ms ρ o) (ht : ∀ x, t (e x) (goneAt ρ vs) = some (env x)) (hc : ∀ x, Et mc (env x) (p x)) (he : ∀ x, Ev f me (env x) (g x)) :
    Ev (eL true f) (compM vs t mc me ms) ρ (o.bind fun xs => compT p g xs) := fun ys hy => by
  obtain ⟨xs, h1, h2⟩ := ob_some hy
  unfold compT at h2; split at h2
  · rename_i q
    rw [LI.ev_comp, hi xs h1, Option.bind_some, if_pos (by simpa using q), compL_T ht hc he xs ys h2]; rfl
  · cases h2
theorem et_yes {ρ : List D} : Et yesB ρ (some true) := fun x h => by cases h; rfl
end LI

namespace LI
open PySem L2

def Bk {τ : Type} (Q : Fl → List D → τ → Prop) (m : SM) (ρ : List D) (o : Option τ) : Prop := ∀ t, o = some t → ∃ fl ρ', m ρ = some (fl, ρ') ∧ Q fl ρ' t
def nxB : Fl → Bool
  | .nx => true | _ => false
def goB : Fl → Bool
  | .nx => true | .ct => true | _ => false
def rtB : Fl → Bool
  | .rt _ => true | .ex _ _ _ => true | _ => false
def Qn {τ : Type} (Q : Fl → List D → τ → Prop) : Fl → List D → τ → Prop := fun fl ρ t => nxB fl = false ∧ Q fl ρ t
def Qj {σ : Type} (kl : List Nat) (env : σ → List D) : Fl → List D → σ → Prop := fun fl ρ s => nxB fl = true ∧ goneAt ρ kl = env s
def Qm {σ τ : Type} (kl : List Nat) (env : σ → List D) (Q : Fl → List D → τ → Prop) : Fl → List D → σ ⊕ τ → Prop := fun fl ρ t => match t with
  | .inl s => nxB fl = true ∧ goneAt ρ kl = env s
  | .inr t => nxB fl = false ∧ Q fl ρ t
def Ql {σ : Type} (kl : List Nat) (env : σ → List D) : Fl → List D → σ → Prop := fun fl ρ s => goB fl = true ∧ goneAt ρ kl = env s
inductive St (σ τ : Type) where
  | nx (s : σ) | bk (s : σ) | rt (t : τ)
def Qs {σ τ : Type} (kl : List Nat) (env : σ → List D) (Q : Fl → List D → τ → Prop) : Fl → List D → St σ τ → Prop := fun fl ρ t => match t with
  | .nx s => goB fl = true ∧ goneAt ρ kl = env s
  | .bk s => fl = .bk ∧ goneAt ρ kl = env s
  | .rt t => rtB fl = true ∧ Q fl ρ t
def Qf {τ : Type} (e : τ → D) (kp : List Bool) (mk : τ → List D) : Fl → List D → τ → Prop := fun fl ρ r => (fl = .rt (e r) ∨ (fl = .nx ∧ e r = .non)) ∧ maskL kp ρ = mk r

def seqT {σ τ : Type} (u : σ ⊕ τ) (k : σ → Option τ) : Option τ := match u with
  | .inl s => k s
  | .inr t => some t
theorem nxB_nx {fl : Fl} (h : nxB fl = true) : fl = .nx := by cases fl <;> first | rfl | cases h
section
variable {α β σ τ : Type} {Q : Fl → List D → τ → Prop} {e e' : α → D} {env : α → List D} {m r a b : SM} {g : GM} {mm : RM} {ρ : List D} {o : Option α} {oc : Option Bool} {c : BM} {k : α → Option τ}
theorem eg_f (h : Ev e mm ρ o) : Eg e (fun _ => ρ) (upF mm) ρ o := fun x hx => by rw [ev_upF, h x hx]; rfl
theorem eg_r [Fz e] (h : Ev e mm ρ o) : Eg e (fun _ => ρ) (upR mm) ρ o := fun x hx => by rw [ev_upR, h x hx, Option.bind_some, if_pos (Fz.fz x)]
theorem eg_mv {L : Lens} (e : α → D) (x : α) (ρ' : List D) (h : L.get ρ = some (e x)) (h2 : L.put ρ .gone = ρ') : Eg e (fun _ => ρ') (mvM L) ρ (some x) := fun y hy => by
  cases hy; rw [LI.ev_mv, h, Option.bind_some, h2]
theorem b_asg {f : TgM} (env2 : α → List D) (h : Eg e env g ρ o) (hf : ∀ x, f (e x) (env x) = some (env2 x)) (h2 : ∀ x, Bk Q m (env2 x) (k x)) : Bk Q (seqM (asgM f g) m) ρ (o.bind k) := fun t ht => by
  obtain ⟨x, h3, h4⟩ := ob_some ht
  obtain ⟨fl, ρ', h5, h6⟩ := h2 x t h4
  refine ⟨fl, ρ', ?_, h6⟩
  unfold seqM asgM
  rw [h x h3, Option.bind_some, hf]
  exact h5
theorem b_asgI {f : TgM} {i : Nat} (env2 : α → List D) (h : Eg e env g ρ o) (hf : ∀ x, (f (e x) (env x)).map (iceAt i) = some (env2 x)) (h2 : ∀ x, Bk Q m (env2 x) (k x)) : Bk Q (seqM (iceM i (asgM f g)) m) ρ (o.bind k) := fun t ht => by
  obtain ⟨x, h3, h4⟩ := ob_some ht
  obtain ⟨fl, ρ', h5, h6⟩ := h2 x t h4
  refine ⟨fl, ρ', ?_, h6⟩
  have := hf x
  cases w : f (e x) (env x) with
  | none => rw [w] at this; cases this
  | some ρ1 =>
    rw [w] at this
    have e2 : iceAt i ρ1 = env2 x := Option.some.inj this
    rw [← e2] at h5
    unfold seqM iceM asgM
    rw [h x h3, Option.bind_some, w]
    exact h5
theorem b_expr (h : Eg e env g ρ o) (h2 : ∀ x, Bk Q m (env x) (k x)) : Bk Q (seqM (exprM g) m) ρ (o.bind k) := fun t ht => by
  obtain ⟨x, h3, h4⟩ := ob_some ht
  obtain ⟨fl, ρ', h5, h6⟩ := h2 x t h4
  refine ⟨fl, ρ', ?_, h6⟩
  unfold seqM exprM
  rw [h x h3]
  exact h5
theorem b_ret {k : α → τ} (h : Eg e env g ρ o) (h2 : ∀ x, Q (.rt (e x)) (env x) (k x)) : Bk Q (seqM (retM g) m) ρ (o.bind fun x => some (k x)) := fun t ht => by
  obtain ⟨x, h3, h4⟩ := ob_some ht
  cases h4
  refine ⟨_, _, ?_, h2 x⟩
  unfold seqM retM
  rw [h x h3]; rfl
theorem b_retI {e : τ → D} {env : τ → List D} {o : Option τ} (h : Eg e env g ρ o) (h2 : ∀ x, Q (.rt (e x)) (env x) x) : Bk Q (seqM (retM g) m) ρ o := fun t ht => by
  refine ⟨_, _, ?_, h2 t⟩
  unfold seqM retM
  rw [h t ht]; rfl
theorem b_nil {t : τ} (h : Q .nx ρ t) : Bk Q skipM ρ (some t) := fun t' ht => by cases ht; exact ⟨_, _, rfl, h⟩
theorem b_never {a : SM} : Bk Q a ρ none := fun t ht => by cases ht
theorem b_ifT {oa ob : Option τ} (hc : Et c ρ oc) (ha : Bk (Qn Q) a ρ oa) (hr : Bk Q r ρ ob) : Bk Q (seqM (ifM c a skipM) r) ρ (oc.bind fun k => if k = true then oa else ob) := fun t ht => by
  obtain ⟨x, h1, h2⟩ := ob_some ht
  cases x with
  | true =>
    rw [if_pos rfl] at h2
    obtain ⟨fl, ρ', h3, h4, h5⟩ := ha t h2
    refine ⟨fl, ρ', ?_, h5⟩
    unfold seqM ifM
    rw [hc _ h1, Option.bind_some, if_pos rfl, h3]
    cases fl <;> first | rfl | cases h4
  | false =>
    simp at h2
    obtain ⟨fl, ρ', h3, h4⟩ := hr t h2
    refine ⟨fl, ρ', ?_, h4⟩
    unfold seqM ifM
    rw [hc _ h1, Option.bind_some, if_neg Bool.false_ne_true]
    exact h3
theorem b_join {kl : List Nat} (env : σ → List D) {oa ob : Option σ} {k : σ → Option τ} (hc : Et c ρ oc) (ha : Bk (Qj kl env) a ρ oa) (hb : Bk (Qj kl env) b ρ ob) (hr : ∀ s, Bk Q r (env s) (k s)) : Bk Q (seqM (ifM c a b) (killM kl r)) ρ (oc.bind fun x => (if x = true then oa else ob).bind k) := fun t ht => by
  obtain ⟨x, h1, h2⟩ := ob_some ht
  obtain ⟨s, h3, h4⟩ := ob_some h2
  obtain ⟨fl, ρ', h5, h6⟩ := hr s t h4
  have main : ∀ m : SM, Bk (Qj kl env) m ρ (if x = true then oa else ob) → ifM c a b ρ = m ρ → ∃ fl ρ', seqM (ifM c a b) (killM kl r) ρ = some (fl, ρ') ∧ Q fl ρ' t := fun m hm he => by
    obtain ⟨f2, ρ2, h7, h8, h9⟩ := hm s h3
    refine ⟨fl, ρ', ?_, h6⟩
    unfold seqM
    rw [he, h7, nxB_nx h8]
    show r (goneAt ρ2 kl) = _
    rw [h9]; exact h5
  cases x with
  | true => exact main a ha (if_T (hc _ h1))
  | false => exact main b hb (if_F (hc _ h1))
end

def foldT {σ α : Type} (g : σ → α → Option σ) : List α → σ → Option σ
  | [], s => some s
  | x :: xs, s => (g s x).bind fun s => foldT g xs s
def forT {σ α τ : Type} (g : σ → α → Option (St σ τ)) : List α → σ → Option (σ ⊕ τ)
  | [], s => some (.inl s)
  | x :: xs, s => (g s x).bind fun u => match u with
    | .nx s => forT g xs s
    | .bk s => some (.inl s)
    | .rt t => some (.inr t)
section
variable {α σ τ : Type} {Q : Fl → List D → τ → Prop} {e : α → D} {r body : SM} {ρ : List D} {oxs : Option (List α)} {c : BM} {k : σ → Option τ} {ms : AM} {f : TgM} {kl : List Nat}
theorem for_fold1 (env : σ → List D) (env1 : σ → α → List D) {g : σ → α → Option σ} (hf : ∀ s x, f (e x) (env s) = some (env1 s x)) (hb : ∀ s x, Bk (Ql kl env) body (env1 s x) (g s x)) : ∀ (xs : List α) (s s' : σ), foldT g xs s = some s' → forL f body kl (xs.map e) (env s) = some (.nx, env s')
  | [], s, s', h => by cases h; rfl
  | x :: xs, s, s', h => by
    obtain ⟨s1, h1, h2⟩ := ob_some h
    obtain ⟨fl, ρ', h3, h4, h5⟩ := hb s x s1 h1
    rw [List.map_cons]; unfold forL
    rw [hf, Option.bind_some, h3, Option.bind_some]
    have ih := for_fold1 env env1 hf hb xs s1 s' h2
    cases fl with
    | nx => simp only [h5]; exact ih
    | ct => simp only [h5]; exact ih
    | bk => cases h4
    | rt d => cases h4
    | ex n fs es => cases h4
theorem b_for (env : σ → List D) (s0 : σ) (env1 : σ → α → List D) {g : σ → α → Option σ} (hi : Ei e ms ρ oxs) (hρ : ρ = env s0) (hf : ∀ s x, f (e x) (env s) = some (env1 s x)) (hb : ∀ s x, Bk (Ql kl env) body (env1 s x) (g s x)) (hr : ∀ s, Bk Q r (env s) (k s)) :
    Bk Q (seqM (forM f body kl ms) r) ρ (oxs.bind fun xs => (foldT g xs s0).bind k) := fun t ht => by
  obtain ⟨xs, h1, h2⟩ := ob_some ht
  obtain ⟨s, h3, h4⟩ := ob_some h2
  obtain ⟨fl, ρ', h5, h6⟩ := hr s t h4
  refine ⟨fl, ρ', ?_, h6⟩
  unfold seqM
  rw [for_at (hi xs h1), hρ, for_fold1 env env1 hf hb xs s0 s h3]
  exact h5
theorem for_step1 (env : σ → List D) (env1 : σ → α → List D) {g : σ → α → Option (St σ τ)} (hf : ∀ s x, f (e x) (env s) = some (env1 s x)) (hb : ∀ s x, Bk (Qs kl env Q) body (env1 s x) (g s x)) : ∀ (xs : List α) (s : σ) (u : σ ⊕ τ), forT g xs s = some u →
    ∃ fl ρ', forL f body kl (xs.map e) (env s) = some (fl, ρ') ∧ match u with | .inl s => fl = .nx ∧ ρ' = env s | .inr t => rtB fl = true ∧ Q fl ρ' t
  | [], s, u, h => by cases h; exact ⟨_, _, rfl, rfl, rfl⟩
  | x :: xs, s, u, h => by
    obtain ⟨v, h1, h2⟩ := ob_some h
    obtain ⟨fl, ρ', h3, h4⟩ := hb s x v h1
    rw [List.map_cons]; unfold forL
    rw [hf, Option.bind_some, h3, Option.bind_some]
    cases v with
    | nx s1 =>
      obtain ⟨f2, ρ2, h5, h6⟩ := for_step1 env env1 hf hb xs s1 u h2
      refine ⟨f2, ρ2, ?_, h6⟩
      cases fl with
      | nx => simp only [h4.2]; exact h5
      | ct => simp only [h4.2]; exact h5
      | bk => cases h4.1
      | rt d => cases h4.1
      | ex n fs es => cases h4.1
    | bk s1 =>
      cases h2
      rw [h4.1]
      exact ⟨_, _, rfl, rfl, h4.2⟩
    | rt t =>
      cases h2
      cases fl with
      | rt d => exact ⟨_, _, rfl, h4⟩
      | ex n fs es => exact ⟨_, _, rfl, h4⟩
      | _ => cases h4.1
theorem b_forR (env : σ → List D) (s0 : σ) (env1 : σ → α → List D) {g : σ → α → Option (St σ τ)} (hi : Ei e ms ρ oxs) (hρ : ρ = env s0) (hf : ∀ s x, f (e x) (env s) = some (env1 s x)) (hb : ∀ s x, Bk (Qs kl env Q) body (env1 s x) (g s x)) (hr : ∀ s, Bk Q r (env s) (k s)) :
    Bk Q (seqM (forM f body kl ms) r) ρ (oxs.bind fun xs => (forT g xs s0).bind fun u => seqT u k) := fun t ht => by
  obtain ⟨xs, h1, h2⟩ := ob_some ht
  obtain ⟨u, h3, h4⟩ := ob_some h2
  obtain ⟨f2, ρ2, h7, h8⟩ := for_step1 env env1 hf hb xs s0 u h3
  unfold seqM
  rw [for_at (hi xs h1), hρ, h7, Option.bind_some]
  cases u with
  | inl s =>
    obtain ⟨rfl, rfl⟩ := h8
    exact hr s t h4
  | inr t2 =>
    cases h4
    cases f2 with
    | rt d => exact ⟨_, _, rfl, h8.2⟩
    | ex n fs es => exact ⟨_, _, rfl, h8.2⟩
    | _ => cases h8.1
end

theorem run_T {τ : Type} {e : τ → D} {n : Nat} {kp : List Bool} {m : SM} {ds : List D} {mk : τ → List D} {o : Option τ} {r : τ} (hl : (ds.length == kp.length) = true) (hb : Bk (Qf e kp mk) m (ds ++ List.replicate (n - ds.length) .gone) o) (h : o = some r) : runM n kp m ds = some (e r, mk r) := by
  obtain ⟨fl, ρ', h1, h2, h3⟩ := hb r h
  unfold runM
  rw [if_pos (by simpa using hl), h1, Option.bind_some]
  rcases h2 with rfl | ⟨rfl, h2⟩
  · rw [← h3]
  · rw [← h3, h2]
end LI

namespace LI
open PySem L2

theorem icL {α : Type} {e e' : α → D} [Ic e e'] (xs : List α) : xs.map (fun x => ice (e x)) = xs.map e' := List.map_congr_left fun x _ => Ic.ic x
theorem fzL {α : Type} {e : α → D} [Fz e] (xs : List α) : frzL (xs.map e) = true := frzL_map.mpr fun x _ => Fz.fz x
theorem eL_map {α β : Type} {e : α → D} {f : β → D} {o : Bool} (k : α → β) (h : ∀ x, f (k x) = e x) (xs : List α) : eL o f (xs.map k) = eL o e xs := by
  unfold eL; rw [List.map_map]; congr 1; exact List.map_congr_left fun x _ => h x
section
variable {α β γ τ σ : Type} {e : α → D} {env : α → List D} {m mo : RM} {ms : AM} {g : GM} {ρ : List D} {o : Option α} {L : Lens}
theorem ev_get {x : α} (h : L.get ρ = some (e x)) : Ev e L.get ρ (some x) := fun y hy => by cases hy; exact h
def appT {α : Type} (xs : List α) (x : α) : Option (List α) := if xs.length < LIM then some (xs ++ [x]) else none
theorem eg_app {a : α → D} {xs : List α} {env : List α → List D} (h : L.get ρ = some (eL true a xs)) (hx : Ev a m ρ o) (hp : ∀ ys, L.put ρ (eL true a ys) = env ys) : Eg (fun _ => .non) env (appL L m) ρ (o.bind fun x => appT xs x) := fun ys hy => by
  obtain ⟨x, h1, h2⟩ := ob_some hy
  unfold appT at h2
  split at h2
  · rename_i q
    cases h2
    rw [LI.ev_app, h, Option.bind_some, hx x h1, Option.bind_some]
    show (if (xs.map a).length < LIM then _ else none) = _
    rw [if_pos (by simpa using q), ← hp]
    simp [eL]
  · cases h2
theorem eg_ext {a : β → D} {i : Nat} {xs0 : List β} {xs ys : α → List β} {o' : Bool} {env0 : α → List D} {env : α × List β → List D} [Fz a] (h0 : ρ[i]? = some (eL true a xs0)) (hg : Eg e env0 g ρ o) (he : ∀ x, e x = eL o' a (ys x)) (h1 : ∀ x, (env0 x)[i]? = some (eL true a (xs x))) (hp : ∀ p, (env0 p.1).set i (eL true a p.2) = env p) :
    Eg (fun _ => .non) env (extS i g) ρ (o.bind fun x => (catL (xs x) (ys x)).bind fun z => some (x, z)) := fun p hy => by
  obtain ⟨x, h2, h3⟩ := ob_some hy
  obtain ⟨z, h4, h5⟩ := ob_some h3
  cases h5
  unfold catL at h4
  split at h4
  · rename_i q
    cases h4
    unfold extS
    rw [h0]
    show (g ρ).bind _ = _
    rw [hg x h2, Option.bind_some]
    simp only [he, h1]
    show (if frzL ((ys x).map a) = true ∧ ((xs x).map a).length + ((ys x).map a).length ≤ LIM then _ else none) = _
    rw [if_pos ⟨fzL _, by simpa using q⟩, ← hp]
    simp [eL]
  · cases h4
theorem eg_binV {f : D → D → Option D} {i : Nat} {a0 : γ} {ec ec0 : γ → D} {x0 : α → γ} {er : β → D} {op : γ → γ → Option β} {ea : γ → D} (hf : O2 f ec ea er op) (hg : Eg e env g ρ o) (y0 : α → γ) (he : ∀ x, e x = ea (y0 x)) [Ng ec] [Ng ec0] (h0 : ρ[i]? = some (ec0 a0)) (h1 : ∀ x, (env x)[i]? = some (ec (x0 x))) :
    Eg (fun p : β × α => er p.1) (fun p => env p.2) (binVG f i g) ρ (o.bind fun x => (op (x0 x) (y0 x)).bind fun z => some (z, x)) := fun p hy => by
  obtain ⟨x, h2, h3⟩ := ob_some hy
  obtain ⟨z, h4, h5⟩ := ob_some h3
  cases h5
  rw [LI.ev_binV, LI.ev_v, h0, Option.bind_some, if_pos (Ng.ng _), Option.bind_some, hg x h2, Option.bind_some, LI.ev_v, h1, Option.bind_some, if_pos (Ng.ng _), Option.bind_some, he, hf _ _ _ h4]; rfl
theorem b_fld {Q : Fl → List D → τ → Prop} {r : SM} {k : α → Option τ} {n : Nat} {f : Str} (env2 : α → List D) (h : Eg e env g ρ o) (hp : ∀ x, ((L.get (env x)).bind fun self => (setFD n f (e x) self).map fun self' => L.put (env x) self') = some (env2 x)) (h2 : ∀ x, Bk Q r (env2 x) (k x)) : Bk Q (seqM (fldM n f L g) r) ρ (o.bind k) := fun t ht => by
  obtain ⟨x, h3, h4⟩ := ob_some ht
  obtain ⟨fl, ρ', h5, h6⟩ := h2 x t h4
  refine ⟨fl, ρ', ?_, h6⟩
  have := hp x
  unfold seqM fldM
  rw [h x h3, Option.bind_some]
  cases w1 : L.get (env x) with
  | none => rw [w1] at this; cases this
  | some self =>
    rw [w1, Option.bind_some] at this
    simp only [w1, Option.bind_some]
    cases w2 : setFD n f (e x) self with
    | none => rw [w2] at this; cases this
    | some s2 =>
      rw [w2] at this
      have e2 : L.put (env x) s2 = env2 x := Option.some.inj this
      rw [Option.map_some, e2]
      exact h5
def Tm {κ : Type} (ec : κ → D) (et : τ → List D) (er : σ → D) (slf : σ → κ) (F : FM) (t : κ → τ → Option σ) : Prop := ∀ x p r, t x p = some r → ∃ ds', F (ec x :: et p) = some (er r, ec (slf r) :: ds')
def To {κ : Type} (ec : κ → D) (et : τ → List D) (er : σ → D) (F : FM) (t : κ → τ → Option σ) : Prop := ∀ x p r, t x p = some r → ∃ ds', F (ec x :: et p) = some (er r, ec x :: ds')
def Tn {κ : Type} (n : Nat) (et : τ → List D) (ec : κ → D) (F : FM) (t : τ → Option κ) : Prop := ∀ p r, t p = some r → ∃ ds', F (.obj true n [] [] :: et p) = some (.non, ec r :: ds')
theorem eg_meth {κ : Type} {ec : κ → D} {x : κ} {et et' : τ → List D} {er : σ → D} {slf : σ → κ} {F : FM} {t : κ → τ → Option σ} {n : Nat} {nm : Str} {env : σ → List D} {os : Option τ} (hT : Tm ec et er slf F t) (hg : L.get ρ = some (ec x)) (hk : isObjK n nm (ec x) = true) (hs : Ea et et' true ms ρ os) (hp : ∀ r, L.put ρ (ec (slf r)) = env r) :
    Eg er env (methM n nm L F ms) ρ (os.bind fun p => t x p) := fun r hr => by
  obtain ⟨p, h1, h2⟩ := ob_some hr
  obtain ⟨ds', h3⟩ := hT x p r h2
  unfold methM
  rw [hg, Option.bind_some, hs.run p h1, Option.bind_some, if_pos ⟨hk, hs.fz rfl p⟩, h3, Option.bind_some]
  show some (er r, L.put ρ (ec (slf r))) = _
  rw [hp]
theorem x_look {κ : Type} {ec ec' : κ → D} {et et' : τ → List D} {er : σ → D} {F : FM} {t : κ → τ → Option σ} {n : Nat} {nm : Str} {os : Option τ} {ok : Option κ} [Fz ec] [Ic ec ec'] (hk : ∀ x, isObjK n nm (ec x) = true) (hT : To ec' et' er F t) (ho : Ev ec mo ρ ok) (hs : Ea et et' true ms ρ os) :
    Ev er (lookM n nm mo F ms) ρ (ok.bind fun x => os.bind fun p => t x p) := fun r hr => by
  obtain ⟨x, h1, h2⟩ := ob_some hr
  obtain ⟨p, h3, h4⟩ := ob_some h2
  obtain ⟨ds', h5⟩ := hT x p r h4
  unfold lookM
  rw [ho x h1, Option.bind_some, hs.run p h3, Option.bind_some, if_pos (hk x), iceL_cons, Ic.ic (e := ec), hs.ic, h5, Option.bind_some, if_pos (.inl (by rw [fzL_cons, Fz.fz, hs.fz rfl]; rfl))]
theorem x_mk {κ : Type} {ec : κ → D} {et et' : τ → List D} {F : FM} {t : τ → Option κ} {n : Nat} {os : Option τ} (hT : Tn n et ec F t) (hs : Ea et et' true ms ρ os) : Ev ec (mkM n F ms) ρ (os.bind t) := fun r hr => by
  obtain ⟨p, h1, h2⟩ := ob_some hr
  obtain ⟨ds', h3⟩ := hT p r h2
  unfold mkM
  rw [hs.run p h1, Option.bind_some, if_pos (hs.fz rfl p), h3, Option.bind_some]
end
def kdS : List (Ts × Ts) → Ts → Option Ts
  | [], _ => none
  | kv :: kvs, z => if kv.1 = z then some kv.2 else kdS kvs z
def kdN (kvs : List (Ts × Ts)) : List (List Nat × List Nat) := kvs.map fun kv => (kv.1.map Char.toNat, kv.2.map Char.toNat)
theorem kdN_get : ∀ (kvs : List (Ts × Ts)) (z : Ts), kdGet (kdN kvs) (z.map Char.toNat) = (kdS kvs z).map fun s => s.map Char.toNat
  | [], z => rfl
  | kv :: kvs, z => by
    show (if kv.1.map Char.toNat = z.map Char.toNat then some (kv.2.map Char.toNat) else kdGet (kdN kvs) (z.map Char.toNat)) = _
    unfold kdS
    by_cases h : kv.1 = z
    · rw [if_pos (by rw [h]), if_pos h]; rfl
    · rw [if_neg (fun q => h (ts_map_inj.mp q)), if_neg h, kdN_get kvs z]
theorem o1_ixK {kvs : List (List Nat × List Nat)} {kt : List (Ts × Ts)} (h : kvs = kdN kt) : O1 (ixK kvs) eS eS (kdS kt) := fun x z hz => by
  subst h
  show (kdGet (kdN kt) (x.map Char.toNat)).map D.str = _
  rw [kdN_get, hz]; rfl
theorem o1_inK {kvs : List (List Nat × List Nat)} {kt : List (Ts × Ts)} (h : kvs = kdN kt) : O1 (inK kvs) eS eB (fun x => some (kdS kt x).isSome) := o1_tot fun x => by
  subst h
  show some (D.bl (kdGet (kdN kt) (x.map Char.toNat)).isSome) = _
  rw [kdN_get, Option.isSome_map]; rfl
class Ki {α : Type} (e : α → D) (k : outParam String) : Prop where
  ki : ∀ x, tyD (e x) = some k
instance : Ki eI "int" := ⟨fun _ => rfl⟩
instance : Ki eS "str" := ⟨fun _ => rfl⟩
section
variable {α β γ δ ε ζ : Type} {a : α → D} {b : β → D} {c : γ → D} {d : δ → D} {e : ε → D} {f : ζ → D} {o : Bool}
instance : Ki (eL o a) "list" := ⟨fun _ => rfl⟩
instance : Ki (e2 a b) "tuple" := ⟨fun _ => rfl⟩
instance : Ki (e4 a b c d) "tuple" := ⟨fun _ => rfl⟩
end
theorem x_isK {α : Type} {e : α → D} {k ty : String} {b : Bool} [Ki e k] {m : RM} {ρ : List D} {o : Option α} (hb : kitB k ty = some b) (h : Ev e m ρ o) : Ev eB (isiM ty m) ρ (o.bind fun _ => some b) :=
  x_isi (fun _ => b) (fun x => by rw [Ki.ki (e := e), Option.bind_some, hb]) h
end LI
namespace OW
end OW

theorem bind_same {α : Type} (x : Option α) : (x.bind fun y => some y) = x := Option.bind_fun_some x
namespace LI
open PySem L2

section
variable {α β γ κ τ σ τ1 τ2 : Type} {Q : Fl → List D → τ → Prop} {e e' : α → D} {env : α → List D} {m r : SM} {g : GM} {mm mi : RM} {ms1 ms2 : AM} {ρ : List D} {o : Option α} {k : α → Option τ} {L : Lens}
theorem ice_set {i : Nat} {x : α} {ρ2 : List D} [Ic e e'] (h : ρ[i]? = some (e x)) (h2 : ρ.set i (e' x) = ρ2) : iceAt i ρ = ρ2 := by
  unfold iceAt
  rw [h]
  show ρ.set i (ice (e x)) = ρ2
  rw [Ic.ic (e := e), h2]
theorem b_frz {i : Nat} {x : α} {ρ2 : List D} {ot : Option τ} [Ic e e'] (h : ρ[i]? = some (e x)) (h2 : ρ.set i (e' x) = ρ2) (hb : Bk Q m ρ2 ot) : Bk Q (frzM i m) ρ ot := by
  intro t ht
  unfold frzM
  rw [ice_set (e := e) h h2]
  exact hb t ht
theorem b_asgC {i : Nat} [ic : Ic e e'] (env2 : α → List D) (h : Eg e env g ρ o) (hl : ∀ x, decide (i < (env x).length) = true) (h2 : ∀ x, (env x).set i (e' x) = env2 x) (h3 : ∀ x, Bk Q m (env2 x) (k x)) : Bk Q (seqM (iceM i (asgM (nameT i) g)) m) ρ (o.bind k) :=
  b_asgI env2 h (fun x => by
    rw [ev_name, Option.map_some, ice_set (e := e) (x := x) (ρ2 := env2 x)]
    · rw [List.getElem?_set_self (of_decide_eq_true (hl x))]
    · rw [List.set_set, h2]) h3
def setT {α : Type} (xs : List α) (i : Int) (x : α) : Option (List α) := (ixN xs.length i).map fun j => xs.set j x
theorem b_store {a : β → D} {v : α → β} {xs : α → List β} {oi : α → Option Int} {kk : α × List β → Option τ} (env2 : α × List β → List D) [Fz a] (h : Eg e env g ρ o) (hv : ∀ x, e x = a (v x)) (hg : ∀ x, L.get (env x) = some (eL true a (xs x))) (hi : ∀ x, Ev eI mi (env x) (oi x)) (hp : ∀ p, L.put (env p.1) (eL true a p.2) = env2 p) (h3 : ∀ p, Bk Q m (env2 p) (kk p)) :
    Bk Q (seqM (storeM L mi g) m) ρ (o.bind fun x => (oi x).bind fun i => (setT (xs x) i (v x)).bind fun ys => kk (x, ys)) := fun t ht => by
  obtain ⟨x, h4, h5⟩ := ob_some ht
  obtain ⟨i, h6, h7⟩ := ob_some h5
  obtain ⟨ys, h8, h9⟩ := ob_some h7
  obtain ⟨fl, ρ', k1, k2⟩ := h3 (x, ys) t h9
  refine ⟨fl, ρ', ?_, k2⟩
  unfold setT at h8
  cases ej : ixN (xs x).length i with
  | none => rw [ej] at h8; cases h8
  | some j =>
    rw [ej] at h8
    cases h8
    unfold seqM storeM
    rw [h x h4, Option.bind_some]
    dsimp only
    rw [hg, Option.bind_some, hi x i h6, Option.bind_some]
    show Option.bind (if frzL ((xs x).map a) = true ∧ frz (e x) = true then (ixN ((xs x).map a).length i).map _ else none) _ = _
    rw [if_pos ⟨fzL _, by rw [hv]; exact Fz.fz _⟩, List.length_map, ej, Option.map_some, Option.bind_some]
    dsimp only
    have := hp (x, (xs x).set j (v x))
    rw [show D.lst true (((xs x).map a).set j (e x)) = eL true a ((xs x).set j (v x)) by rw [hv]; simp [eL, List.map_set], this]
    exact k1
end
end LI

namespace LI
open PySem L2

def Etg {α : Type} (env : α → List D) (c : BGM) (ρ : List D) (o : Option (Bool × α)) : Prop := ∀ z, o = some z → c ρ = some (z.1, env z.2)
section
variable {α β γ κ τ σ ζ η : Type} {Q : Fl → List D → τ → Prop} {e e1 : α → D} {env env1 : α → List D} {m r a b : SM} {g ga gb : GM} {mm : RM} {ρ : List D} {o : Option α} {c : BM} {mc md : BGM} {oc od : Option (Bool × α)} {k : α → Option τ}
theorem eg_st (b : α → Bool) (st : α → σ) (env2 : σ → List D) (h : Eg e env g ρ o) (hv : ∀ x, e x = .bl (b x)) (he : ∀ x, env x = env2 (st x)) : Eg (fun p : Bool × σ => eB p.1) (fun p => env2 p.2) g ρ (o.bind fun x => some (b x, st x)) := fun p hp => by
  obtain ⟨x, h3, h4⟩ := ob_some hp
  cases h4
  rw [h x h3, hv, he]; rfl
theorem etg_tru {o : Option (Bool × σ)} {env : σ → List D} (h : Eg (fun p : Bool × σ => eB p.1) (fun p => env p.2) g ρ o) : Etg env (truG g) ρ o := fun z hz => by
  unfold truG; rw [h z hz]; rfl
theorem etg_not (h : Etg env mc ρ oc) : Etg env (notG mc) ρ (oc.bind fun r => some (!r.1, r.2)) := fun z hz => by
  obtain ⟨x, h1, h2⟩ := ob_some hz
  cases h2
  unfold notG; rw [h x h1]; rfl
theorem ifG_T {mc : BGM} {ρ1 : List D} (h : mc ρ = some (true, ρ1)) : ifGM mc a b ρ = a ρ1 := by unfold ifGM; rw [h]; rfl
theorem ifG_F {mc : BGM} {ρ1 : List D} (h : mc ρ = some (false, ρ1)) : ifGM mc a b ρ = b ρ1 := by unfold ifGM; rw [h]; rfl
theorem b_ifGT {oa ob : α → Option τ} (hc : Etg env mc ρ oc) (ha : ∀ s, Bk (Qn Q) a (env s) (oa s)) (hr : ∀ s, Bk Q r (env s) (ob s)) : Bk Q (seqM (ifGM mc a skipM) r) ρ (oc.bind fun k => if k.1 = true then oa k.2 else ob k.2) := fun t ht => by
  obtain ⟨x, h1, h2⟩ := ob_some ht
  obtain ⟨k, s⟩ := x
  cases k with
  | true =>
    obtain ⟨fl, ρ', h3, h4, h5⟩ := ha s t h2
    refine ⟨fl, ρ', ?_, h5⟩
    unfold seqM
    rw [ifG_T (hc _ h1), h3]
    cases fl <;> first | rfl | cases h4
  | false =>
    obtain ⟨fl, ρ', h3, h4⟩ := hr s t h2
    refine ⟨fl, ρ', ?_, h4⟩
    unfold seqM
    rw [ifG_F (hc _ h1)]
    exact h3
end
end LI

namespace LI
open PySem L2

def kS (s : Ts) : Key := .inr ⟨(s.map Char.toNat).toArray⟩
class Ky {κ : Type} (ek : κ → D) (kk : outParam (κ → Key)) : Prop where
  ky : ∀ x, keyD (ek x) = some (kk x)
  inj : ∀ x y, kk x = kk y → x = y
instance : Ky eS kS := ⟨fun _ => rfl, fun x y h => by
  have h1 : (⟨(x.map Char.toNat).toArray⟩ : Str) = ⟨(y.map Char.toNat).toArray⟩ := Sum.inr.inj h
  have h2 : (x.map Char.toNat).toArray = (y.map Char.toNat).toArray := congrArg (fun s : Str => s.cps) h1
  exact ts_map_inj.mp (Array.toList_inj.mpr h2)⟩
def eD {κ α : Type} (o : Bool) (kk : κ → Key) (a : α → D) (m : List (κ × α)) : D := .dK o (m.map fun p => kk p.1) (m.map fun p => a p.2)
section
variable {κ α β : Type} {o : Bool} {ek : κ → D} {kk : κ → Key} {a a' : α → D} {ρ : List D} {ma mb mc mk mv : RM} {ms mt : AM}
theorem frzL2 [Fz a] : ∀ m : List (κ × α), frzL (m.map fun p => a p.2) = true
  | [] => rfl
  | p :: m => by rw [List.map_cons]; show (frz (a p.2) && frzL _) = true; rw [Fz.fz, frzL2 m]; rfl
instance : Ng (eD o kk a) := ⟨fun _ => rfl⟩
instance [Fz a] : Fz (eD false kk a) := ⟨fun m => by
  show (!false && frzL (m.map fun p => a p.2)) = true
  rw [frzL2]; rfl⟩
instance [Ic a a'] : Ic (eD o kk a) (eD false kk a') := ⟨fun m => by
  show D.dK false _ (iceL (m.map fun p => a p.2)) = .dK false _ (m.map fun p => a' p.2)
  congr 1
  induction m with
  | nil => rfl
  | cons p m ih => simp [iceL, ih, Ic.ic (e := a)]⟩
def Edp (kk : κ → Key) (a : α → D) (ms mt : AM) (ρ : List D) (o : Option (List (κ × α))) : Prop := ∀ m, o = some m → ∃ kds, ms ρ = some kds ∧ keyDs kds = some (m.map fun p => kk p.1) ∧ mt ρ = some (m.map fun p => a p.2)
theorem edp_nil : Edp kk a nilM nilM ρ (some []) := fun m h => by cases h; exact ⟨[], rfl, rfl, rfl⟩
def dispT {κ α : Type} [DecidableEq κ] (m : List (κ × α)) : Option (List (κ × α)) := if (m.map (·.1)).Nodup ∧ m.length ≤ 15 then some m else none
theorem nodup_kk [DecidableEq κ] (ek : κ → D) [Ky ek kk] : ∀ m : List (κ × α), (m.map (·.1)).Nodup → (m.map fun p => kk p.1).Nodup
  | [], _ => List.nodup_nil
  | p :: m, h => by
    rw [List.map_cons, List.nodup_cons] at h ⊢
    refine ⟨fun q => h.1 ?_, nodup_kk ek m h.2⟩
    obtain ⟨r, hr, e⟩ := List.mem_map.mp q
    rw [← Ky.inj ek _ _ e]
    exact List.mem_map_of_mem hr
theorem x_disp [DecidableEq κ] (ek : κ → D) [Ky ek kk] [Fz a] {om : Option (List (κ × α))} (h : Edp kk a ms mt ρ om) : Ev (eD true kk a) (dispM ms mt) ρ (om.bind fun m => dispT m) := fun z hz => by
  obtain ⟨m, h1, h2⟩ := ob_some hz
  unfold dispT at h2
  split at h2
  · rename_i q
    cases h2
    obtain ⟨kds, e1, e2, e3⟩ := h z h1
    unfold dispM
    rw [e1, Option.bind_some, e3, Option.bind_some, e2, Option.bind_some, if_pos ⟨nodup_kk ek z q.1, frzL2 z, by simpa using q.2, by simp⟩]
    rfl
  · cases h2
end
end LI
namespace LI
open PySem L2
def slX (l h : Option Int) : D → D
  | .tup ds => .tup (cutL ds l h)
  | d => d
def isTup : D → Bool
  | .tup _ => true | _ => false
theorem x_slK {α β : Type} {e : α → D} {f : β → D} [Fz e] {m : RM} {lo hi : OM} {ρ : List D} {o : Option α} (l h : Option Int) (k : α → β) (hk : ∀ x, slX l h (e x) = f (k x)) (ht : ∀ x, isTup (e x) = true) (hm : Ev e m ρ o) (hl : lo ρ = some l) (hh : hi ρ = some h) : Ev f (slM m lo hi) ρ (o.bind fun x => some (k x)) := fun z hz => by
  obtain ⟨x, h1, h2⟩ := ob_some hz
  cases h2
  rw [ev_slM, hm x h1, Option.bind_some, hl, Option.bind_some, hh, Option.bind_some]
  have h3 := hk x
  have h4 := ht x
  have h5 : frz (e x) = true := Fz.fz x
  cases hd : e x with
  | tup ds =>
    rw [hd] at h3 h5
    show (if frzL ds = true then some (D.tup (cutL ds l h)) else none) = _
    rw [if_pos (show frzL ds = true from h5), ← h3]; rfl
  | _ => rw [hd] at h4; cases h4
end LI

namespace LI
open PySem L2
theorem b_frzP {α τ : Type} {Q : Fl → List D → τ → Prop} {e e' : α → D} {m : SM} {ρ : List D} {L : Lens} {x : α} {ρ2 : List D} {ot : Option τ} [Ic e e'] (h : L.get ρ = some (e x)) (h2 : L.put ρ (e' x) = ρ2) (hb : Bk Q m ρ2 ot) : Bk Q (frzP L m) ρ ot := fun t ht => by
  unfold frzP
  rw [h, Option.bind_some, Ic.ic (e := e), h2]
  exact hb t ht
theorem eg_cold {α : Type} {e e' : α → D} {env : α → List D} {g : GM} {ρ : List D} {o : Option α} [ic : Ic e e'] (h : Eg e env g ρ o) : Eg e' env (coldG g) ρ o := fun x hx => by
  unfold coldG
  rw [h x hx, Option.map_some, Ic.ic (e := e)]
section
variable {α β γ δ ε ζ : Type} {a : α → D} {b : β → D} {c : γ → D} {d : δ → D} {e : ε → D} {f : ζ → D}
end
section
variable {α : Type} {o : Bool} {e e' : α → D}
end
def Eag {τ : Type} (et env : τ → List D) (ms : AGM) (ρ : List D) (o : Option τ) : Prop := ∀ t, o = some t → ms ρ = some (et t, env t) ∧ frzL (et t) = true
section
variable {α β σ τ : Type} {e : α → D} {env : α → List D} {g : GM} {ms : AGM} {ρ : List D} {o : Option α}
theorem eag_nil : Eag (fun _ : Unit => []) (fun _ => ρ) nilG ρ (some ()) := fun t _ => ⟨rfl, rfl⟩
theorem eag_cons {et2 env2 : α → β → List D} {o2 : α → Option β} (h : Eg e env g ρ o) (hz : ∀ x, frz (e x) = true) (h2 : ∀ x, Eag (et2 x) (env2 x) ms (env x) (o2 x)) : Eag (fun p : α × β => e p.1 :: et2 p.1 p.2) (fun p => env2 p.1 p.2) (consG g ms) ρ (o.bind fun x => (o2 x).bind fun y => some (x, y)) := fun t ht => by
  obtain ⟨x, h3, h4⟩ := ob_some ht
  obtain ⟨y, h5, h6⟩ := ob_some h4
  cases h6
  obtain ⟨k1, k2⟩ := h2 x y h5
  refine ⟨?_, ?_⟩
  · unfold consG
    rw [h x h3, Option.bind_some]
    show (if frz (e x) = true then _ else none) = _
    rw [if_pos (hz x), k1]; rfl
  · show (frz (e x) && frzL (et2 x y)) = true
    rw [hz, k2]; rfl
theorem eg_callG {et env : τ → List D} {et' : β → List D} {er : σ → D} {F : FM} {t : β → Option σ} {o : Option τ} (hT : Tf et' er F t) (k : τ → β) (h : Eag et env ms ρ o) (hk : ∀ x, et x = et' (k x)) : Eg (fun p : σ × τ => er p.1) (fun p => env p.2) (callG F ms) ρ (o.bind fun x => (t (k x)).bind fun r => some (r, x)) := fun p hp => by
  obtain ⟨x, h3, h4⟩ := ob_some hp
  obtain ⟨r, h5, h6⟩ := ob_some h4
  cases h6
  obtain ⟨k1, k2⟩ := h x h3
  obtain ⟨ds', h7⟩ := hT _ _ h5
  unfold callG
  rw [k1, Option.bind_some]
  show (if frzL (et x) = true then (F (et x)).map _ else none) = _
  rw [if_pos k2, hk, h7]; rfl
end
end LI

namespace LI
open PySem L2
def setI {α : Type} (xs : List α) (i : Int) (y : α) : List α := match ixN xs.length i with
  | some j => xs.set j y
  | none => xs
section
variable {α β σ τ : Type} {o : Bool} {a : α → D} {xs : List α} {ρ : List D} {L : Lens} {mi : RM} {oi : Option Int} {envs : List α → List D} {g : GM}
theorem at_ixN {i : Int} {x : α} (h : atI xs i = some x) : ∃ j, ixN xs.length i = some j ∧ xs[j]? = some x := by
  unfold atI at h
  cases e : ixN xs.length i with
  | none => rw [e] at h; cases h
  | some j => rw [e] at h; exact ⟨j, rfl, h⟩
theorem eg_ix [Ng a] {e : Int → β → D} {env : Int → β → List D} {ob : Int → α → Option β} (hL : L.get ρ = some (eL o a xs)) (hpL : ∀ ys, L.put ρ (eL o a ys) = envs ys) (hi : Ev eI mi ρ oi)
    (h : ∀ i x, atI xs i = some x → (idxL L mi).get ρ = some (a x) → (∀ y, (idxL L mi).put ρ (a y) = envs (setI xs i y)) → Eg (e i) (env i) g ρ (ob i x)) :
    Eg (fun p : Int × β => e p.1 p.2) (fun p => env p.1 p.2) g ρ (oi.bind fun i => (atI xs i).bind fun x => (ob i x).bind fun r => some (i, r)) := fun p hp => by
  obtain ⟨i, h1, h2⟩ := ob_some hp
  obtain ⟨x, h3, h4⟩ := ob_some h2
  obtain ⟨r, h5, h6⟩ := ob_some h4
  cases h6
  obtain ⟨j, k1, k2⟩ := at_ixN h3
  have hm : mi ρ = some (.int i) := hi i h1
  refine h i x h3 ?_ ?_ r h5
  · show ((L.get ρ).bind fun d => (mi ρ).bind fun i => _) = _
    rw [hL, hm]
    show ((ixN (xs.map a).length i).bind fun j => ((xs.map a)[j]?).bind fun d => if notGone d = true then some d else none) = _
    rw [List.length_map, k1, Option.bind_some, List.getElem?_map, k2]
    show (if notGone (a x) = true then some (a x) else none) = _
    rw [if_pos (Ng.ng x)]
  · intro y
    show (match L.get ρ, mi ρ with | some (.lst o ds), some (.int k) => (match ixN ds.length k with | some j => L.put ρ (.lst o (ds.set j (a y))) | none => ρ) | _, _ => ρ) = _
    rw [hL, hm]
    show (match ixN (xs.map a).length i with | some j => L.put ρ (.lst o ((xs.map a).set j (a y))) | none => ρ) = _
    unfold setI
    rw [List.length_map, k1]
    show L.put ρ (.lst o ((xs.map a).set j (a y))) = envs (xs.set j y)
    rw [← hpL]
    show _ = L.put ρ (.lst o ((xs.set j y).map a))
    rw [List.map_set]
def Eao {τ : Type} (et env : τ → List D) (ms : AGM) (ρ : List D) (o : Option τ) : Prop := ∀ t, o = some t → ms ρ = some (et t, env t)
theorem eao_nil : Eao (fun _ : Unit => []) (fun _ => ρ) nilG ρ (some ()) := fun t _ => rfl
theorem eao_cons {γ : Type} {e : γ → D} {env : γ → List D} {ms : AGM} {o : Option γ} {et2 env2 : γ → β → List D} {o2 : γ → Option β} (h : Eg e env g ρ o) (h2 : ∀ x, Eao (et2 x) (env2 x) ms (env x) (o2 x)) : Eao (fun p : γ × β => e p.1 :: et2 p.1 p.2) (fun p => env2 p.1 p.2) (consO g ms) ρ (o.bind fun x => (o2 x).bind fun y => some (x, y)) := fun t ht => by
  obtain ⟨x, h3, h4⟩ := ob_some ht
  obtain ⟨y, h5, h6⟩ := ob_some h4
  cases h6
  unfold consO
  rw [h x h3, Option.bind_some]
  dsimp only
  rw [h2 x y h5]; rfl
theorem eg_lstO {ms : AGM} {et env : τ → List D} {o : Option τ} {f : β → D} (k : τ → β) (h : Eao et env ms ρ o) (hk : ∀ x, f (k x) = .lst true (et x)) (hl : ∀ x, (et x).length ≤ LIM) : Eg (fun p : β × τ => f p.1) (fun p => env p.2) (lstO ms) ρ (o.bind fun x => some (k x, x)) := fun p hp => by
  obtain ⟨x, h3, h4⟩ := ob_some hp
  cases h4
  unfold lstO
  rw [h x h3, Option.bind_some]
  show (if (et x).length ≤ LIM then _ else none) = _
  rw [if_pos (hl x)]
  dsimp only
  rw [hk]
end
end LI

namespace LI
open PySem L2
def k2 {α β : Type} (a : α → Key) (b : β → Key) (t : α × β) : List Key := [a t.1, b t.2]
section
variable {α β γ κ τ : Type} {a : α → Key} {b : β → Key} {c : γ → Key} {kk : κ → List Key} {e : α → D} {e' : κ → D} {o : Bool} {ρ : List D} {m ma mb : RM} {ms : AM}
def putT {κ α : Type} [DecidableEq κ] (m : List (κ × α)) (k : κ) (v : α) : List (κ × α) := if (m.any fun p => decide (p.1 = k)) = true then m.map (fun p => if p.1 = k then (p.1, v) else p) else m ++ [(k, v)]
theorem put_any {κ2 : Type} [DecidableEq κ] [DecidableEq κ2] (f : κ → κ2) (hf : ∀ x y, f x = f y → x = y) (k : κ) : ∀ m : List (κ × α), ((m.map fun p => f p.1).any fun j => decide (j = f k)) = m.any fun p => decide (p.1 = k)
  | [] => rfl
  | p :: m => by
    rw [List.map_cons, List.any_cons, List.any_cons, put_any f hf k m]
    congr 1
    by_cases h : p.1 = k
    · rw [h]; simp
    · rw [decide_eq_false h, decide_eq_false (fun q => h (hf _ _ q))]
theorem put_map {κ2 : Type} [DecidableEq κ] [DecidableEq κ2] (f : κ → κ2) (hf : ∀ x y, f x = f y → x = y) (k : κ) (v : α) : ∀ m : List (κ × α), (((m.map fun p => f p.1).zip (m.map fun p => e p.2)).map fun p => if p.1 = f k then e v else p.2) = (m.map fun p => if p.1 = k then (p.1, v) else p).map fun p => e p.2
  | [] => rfl
  | p :: m => by
    simp only [List.map_cons, List.zip_cons_cons]
    rw [put_map f hf k v m]
    congr 1
    by_cases h : p.1 = k
    · rw [if_pos h, if_pos (by rw [h])]
    · rw [if_neg h, if_neg (fun q => h (hf _ _ q))]
theorem put_eq {κ2 : Type} [DecidableEq κ] [DecidableEq κ2] (f : κ → κ2) (hf : ∀ x y, f x = f y → x = y) (k : κ) (v : α) (m : List (κ × α)) : putL (m.map fun p => f p.1) (m.map fun p => e p.2) (f k) (e v) = ((putT m k v).map (fun p => f p.1), (putT m k v).map fun p => e p.2) := by
  unfold putL putT
  rw [put_any f hf]
  split
  · rw [put_map f hf]
    congr 1
    rw [List.map_map]
    apply List.map_congr_left
    intro p _
    show f p.1 = f (if p.1 = k then (p.1, v) else p).1
    split <;> rfl
  · simp
end
end LI

namespace LI
open PySem L2
section
variable {X : Cx} {cl : Nat → Addr} {E : En} {pos : Pos} {x : Str}
theorem ss_never {sts : List Stmt} : PSs X sts (tS ⟨X.K, cl, X.w⟩ E (seqM noM' skipM)) := ⟨fun pins s σ H D I ⟨P, S, ρ, fl, ρ', w, hm, q⟩ => by cases hm⟩
end
end LI

namespace LI
open PySem L2
section
variable {X : Cx} {pins : List (Addr × Obj)} {σ : L2.St} {H : Hp} {s : Shared}
end
end LI

namespace LI
open PySem L2
section
variable {X : Cx} {cl : Nat → Addr} {E : En} {e a b o i : Expr} {es : List Expr} {pos p apos cpos : Pos} {m ma mb : RM} {ms : AM} {L : Lens}
end
section
variable {α β γ κ τ : Type} {kk : κ → List Key} {kq : κ → Key} {ek : κ → D} {a : α → D} {o : Bool} {ρ : List D} {m ma mb : RM}
end
end LI

namespace LI
open PySem L2
def keyQ : Key → PyData
  | .inl i => .int i
  | .inr s => .str s
mutual
def toQ : D → Option PyData
  | .int i => some (.int i)
  | .str s => some (.str ⟨s.toArray⟩)
  | .key ks => some (.tuple (ks.map keyQ))
  | .tup ds => (toQL ds).map .tuple
  | _ => none
def toQL : List D → Option (List PyData)
  | [] => some []
  | d :: ds => (toQ d).bind fun p => (toQL ds).map fun ps => p :: ps
end
mutual
/-- a value that reads as data -/
def VD (K : PySem.W.Frag) (H : Hp) : PyData → V → Prop
  | .int i, v => v = .int i
  | .str s, v => v = .str s
  | .tuple ps, v => ∃ a xs, v = .ref a ∧ SqT K H a xs ∧ VDL K H ps xs
  | _, _ => False
def VDL (K : PySem.W.Frag) (H : Hp) : List PyData → List V → Prop
  | [], xs => xs = []
  | p :: ps, xs => ∃ y ys, xs = y :: ys ∧ VD K H p y ∧ VDL K H ps ys
end
section
variable {X : Cx} {pins : List (Addr × Obj)} {σ : L2.St} {H : Hp} {s : Shared}
end
theorem VDL.len {K : PySem.W.Frag} {H : Hp} : ∀ {ps : List PyData} {xs : List V}, VDL K H ps xs → ps.length = xs.length
  | [], xs, h => by obtain rfl : xs = [] := h; rfl
  | p :: ps, xs, ⟨y, ys, e, _, h⟩ => by subst e; simp [VDL.len h]
def isTupP : PyData → Bool
  | .tuple (_ :: _) => true
  | _ => false
def isPlP : PyData → Bool
  | .tuple _ => false
  | .none => false
  | _ => true
section
variable {X : Cx} {pins : List (Addr × Obj)} {σ : L2.St} {H : Hp} {s : Shared}
end
class Sd {α : Type} (e : α → D) (p : outParam (α → PyData)) (n : outParam Nat) : Prop where
  to : ∀ x, toQ (e x) = some (p x)
  al : ∀ x y, PySem.W.alike (p x) (p y) = true
  dp : ∀ x, (p x).depth ≤ n
  ok : (∀ x, isTupP (p x) = true) ∨ ∀ x, isPlP (p x) = true
def p2 {α β : Type} (p : α → PyData) (q : β → PyData) (t : α × β) : PyData := .tuple [p t.1, q t.2]
def p3 {α β γ : Type} (p : α → PyData) (q : β → PyData) (r : γ → PyData) (t : α × β × γ) : PyData := .tuple [p t.1, q t.2.1, r t.2.2]
end LI

namespace LI
open PySem L2
section
variable {c : LC} {E : En} {P P1 : Hp} {S S1 T U1 : FP} {σ σ1 : L2.St} {H H1 : Hp} {ρ ρ1 : List D}
end
section
variable {X : Cx} {cl : Nat → Addr} {E : En} {tg : Expr} {pos p : Pos} {x : Str}
end
end LI

namespace LI
open PySem L2
def tupO (ms : AGM) : GM := fun ρ => (ms ρ).bind fun s => if s.1.length ≤ LIM then some (.tup s.1, s.2) else none
section
variable {X : Cx} {cl : Nat → Addr} {E : En} {es : List Expr} {pos : Pos} {ms : AGM}
theorem g_tupO {x1} (h : PA X es (tAO ⟨X.K, cl, X.w⟩ E ms)) : PE X (.Tuple es x1 pos) (tG ⟨X.K, cl, X.w⟩ E (tupO ms)) := PE_imp (pe_tup h) fun σ H Q ⟨P, S, T, ρ, d, ρ', w, hm, q⟩ => by
  unfold tupO at hm
  cases e1 : ms ρ with
  | none => rw [e1] at hm; cases hm
  | some s =>
    obtain ⟨ds, ρ1⟩ := s
    rw [e1, Option.bind_some] at hm
    dsimp only at hm
    split at hm
    · rename_i hl
      cases hm
      refine ⟨P, S, T, ρ, ds, _, w, e1, fun vs H1 P1 S1 U w1 x1 r1 k1 => ⟨by rw [← r1.length]; exact lim_le hl, fun p hp => ?_⟩⟩
      have hP : P1 p = none := none_of w1.ph hp
      have g2 : Gr P1 H1 (upd P1 p (.tup vs)) (upd H1 p (.tup vs)) := ⟨ex_new hP, ex_new hp, fun a o z => by
        by_cases q : a = p
        · subst q; rw [upd_same] at z ⊢; exact z
        · rw [upd_ne q] at z ⊢; exact w1.ph a o z, fun a z => by
        by_cases q : a = p
        · subst q; exact .inr hp
        · rw [upd_ne q] at z; exact .inl z⟩
      have w2 := w1.grow g2
      exact q (.ref p) _ _ S1 U w2 (x1.trans (ex_new hP)) ⟨p, vs, rfl, .inl (.inl upd_same), RepL.mono (ex_new hP) ds vs U (fun a o z h => ex_new hp _ _ h) r1⟩ fun a o z1 z2 => ex_new hp _ _ (k1 a o z1 z2)
    · cases hm
end
section
variable {X : Cx} {cl : Nat → Addr} {E : En} {o : Expr} {pos apos : Pos} {g : GM}
end
section
variable {α β σ τ : Type} {Q : Fl → List D → τ → Prop} {e : α → D} {r body : SM} {ρ : List D} {k : σ → Option τ} {f : TgM} {kl : List Nat}
theorem eg_tupO {ms : AGM} {et env : τ → List D} {o : Option τ} {f : β → D} (k : τ → β) (h : Eao et env ms ρ o) (hk : ∀ x, f (k x) = .tup (et x)) (hl : ∀ x, (et x).length ≤ LIM) : Eg (fun p : β × τ => f p.1) (fun p => env p.2) (tupO ms) ρ (o.bind fun x => some (k x, x)) := fun p hp => by
  obtain ⟨x, h3, h4⟩ := ob_some hp
  cases h4
  unfold tupO
  rw [h x h3, Option.bind_some]
  show (if (et x).length ≤ LIM then _ else none) = _
  rw [if_pos (hl x)]
  dsimp only
  rw [hk]
end
end LI

namespace LI
open PySem L2
section
variable {X : Cx} {cl : Nat → Addr} {E : En} {tg e2 : Expr} {pos p p2 tpos : Pos} {x : Str} {elts : List Expr} {kk : Nat} {m2 : RM}
end
section
variable {α β σ τ : Type} {Q : Fl → List D → τ → Prop} {e : α → D} {e2 : β → D} {r body : SM} {ρ : List D} {k : σ → Option τ} {f : TgM} {kl : List Nat} {mb : RM}
end
end LI

namespace LI
open PySem L2
section
variable {L : Lens}
theorem ixN_nat {n j : Nat} (h : j < n) : ixN n (j : Int) = some j := by
  unfold ixN
  simp [h]
end
section
variable {X : Cx} {cl : Nat → Addr} {E : En} {a : Expr} {pos p2 : Pos} {L : Lens}
end
section
variable {X : Cx} {cl : Nat → Addr} {E : En} {e : Expr} {pos apos : Pos} {g : GM}
end
section
variable {X : Cx} {cl : Nat → Addr} {E : En} {tg : Expr} {pos p p2 p3 : Pos} {x : Str}
end
section
variable {X : Cx} {cl : Nat → Addr} {E : En} {e : Expr} {m : RM}
end
section
variable {α β σ τ : Type} {Q : Fl → List D → τ → Prop} {e : α → D} {r body : SM} {ρ : List D} {k : σ → Option τ} {f : TgM} {kl : List Nat}
end
end LI

namespace LI
open PySem L2
def compLO (f : TgM) (mc : BM) (me : RM) (ρ0 : List D) : List D → Option (List D)
  | [] => some []
  | d :: ds => (f d ρ0).bind fun ρ1 => (mc ρ1).bind fun k => if k = true then (me ρ1).bind fun y => (compLO f mc me ρ0 ds).map fun ys => y :: ys else compLO f mc me ρ0 ds
def compOM (vs : List Nat) (f : TgM) (mc : BM) (me : RM) (ms : AM) : RM := fun ρ => (ms ρ).bind fun ds => if ds.length ≤ LIM then (compLO f mc me (goneAt ρ vs) ds).map (.lst true) else none
theorem compLO_len {f : TgM} {mc : BM} {me : RM} {ρ0 : List D} : ∀ {ds ys : List D}, compLO f mc me ρ0 ds = some ys → ys.length ≤ ds.length
  | [], ys, h => by cases h; exact Nat.le_refl _
  | d :: ds, ys, h => by
    unfold compLO at h
    cases e1 : f d ρ0 with
    | none => rw [e1] at h; cases h
    | some ρ1 =>
      cases e2 : mc ρ1 with
      | none => rw [e1, Option.bind_some, e2] at h; cases h
      | some k =>
        rw [e1, Option.bind_some, e2, Option.bind_some] at h
        split at h
        · cases e3 : me ρ1 with
          | none => rw [e3] at h; cases h
          | some y =>
            rw [e3, Option.bind_some] at h
            cases e4 : compLO f mc me ρ0 ds with
            | none => rw [e4] at h; cases h
            | some zs => rw [e4] at h; cases h; have := compLO_len e4; simp; omega
        · have := compLO_len h; simp; omega
theorem compLO_turn {f : TgM} {mc : BM} {me : RM} {ρ0 : List D} : ∀ {ds ys : List D} {i : Nat} {d : D}, compLO f mc me ρ0 ds = some ys → ds[i]? = some d → ∃ zs ρ1 k, compLO f mc me ρ0 (ds.take i) = some zs ∧ f d ρ0 = some ρ1 ∧ mc ρ1 = some k ∧
    (k = true → ∃ y, me ρ1 = some y ∧ compLO f mc me ρ0 (ds.take (i + 1)) = some (zs ++ [y])) ∧ (k = false → compLO f mc me ρ0 (ds.take (i + 1)) = some zs)
  | [], ys, i, d, h, e => by simp at e
  | d0 :: ds, ys, i, d, h, e => by
    unfold compLO at h
    cases e1 : f d0 ρ0 with
    | none => rw [e1] at h; cases h
    | some ρ1 =>
      cases e2 : mc ρ1 with
      | none => rw [e1, Option.bind_some, e2] at h; cases h
      | some k =>
        rw [e1, Option.bind_some, e2, Option.bind_some] at h
        cases i with
        | zero =>
          simp at e; subst e
          refine ⟨[], ρ1, k, rfl, e1, e2, fun hk => ?_, fun hk => ?_⟩
          · subst hk
            rw [if_pos rfl] at h
            cases e3 : me ρ1 with
            | none => rw [e3] at h; cases h
            | some y => exact ⟨y, rfl, by simp [compLO, e1, e2, e3]⟩
          · subst hk; simp [compLO, e1, e2]
        | succ i =>
          have e' : ds[i]? = some d := by simpa using e
          cases k with
          | true =>
            rw [if_pos rfl] at h
            cases e3 : me ρ1 with
            | none => rw [e3] at h; cases h
            | some y =>
              rw [e3, Option.bind_some] at h
              cases e4 : compLO f mc me ρ0 ds with
              | none => rw [e4] at h; cases h
              | some ws =>
                obtain ⟨zs, ρ2, k2, h1, h2, h3, h4, h5⟩ := compLO_turn e4 e'
                refine ⟨y :: zs, ρ2, k2, by simp [compLO, e1, e2, e3, h1], h2, h3, fun z => ?_, fun z => ?_⟩
                · obtain ⟨y2, k3, k5⟩ := h4 z
                  exact ⟨y2, k3, by simp [compLO, e1, e2, e3, k5]⟩
                · simp [compLO, e1, e2, e3, h5 z]
          | false =>
            rw [if_neg (by decide)] at h
            obtain ⟨zs, ρ2, k2, h1, h2, h3, h4, h5⟩ := compLO_turn h e'
            refine ⟨zs, ρ2, k2, by simp [compLO, e1, e2, h1], h2, h3, fun z => ?_, fun z => ?_⟩
            · obtain ⟨y2, k3, k5⟩ := h4 z
              exact ⟨y2, k3, by simp [compLO, e1, e2, k5]⟩
            · simp [compLO, e1, e2, h5 z]
theorem gr_nw {Pa Ha Pb Hb : Hp} (g : Gr Pa Ha Pb Hb) (a : Addr) (h1 : Pa a = none) (h2 : Ha a ≠ none) : Pb a = none := by
  cases z : Pb a with
  | none => rfl
  | some o =>
    rcases g.new a (by rw [z]; simp) with q' | q'
    · exact absurd h1 q'
    · exact absurd q' h2
theorem ex_keep {Ha Hb : Hp} (e : Ex Ha Hb) (a : Addr) (h : Ha a ≠ none) : Hb a ≠ none := by
  cases z : Ha a with
  | none => exact absurd z h
  | some o => rw [e a o z]; simp
theorem lcO_run {c : LC} {E : En} {vs tl : List Nat} {f : TgM} {mc : BM} {me : RM} {ms : AM} (ht : ∀ j ∈ tl, j ∈ vs) (hk : ∀ j ∈ vs, E.kp[j]? ≠ some true) {σ : L2.St} {H : Hp} {Q : VK} (h : tF c E (compOM vs f mc me ms) σ H Q) :
    tLc (tIV c E ms) (tPG c E tl f) (tTs c E mc) (tF c E me) vs σ H Q := by
  obtain ⟨P, S, T, ρ, d, w, hm, q⟩ := h
  unfold compOM at hm
  cases es : ms ρ with
  | none => rw [es] at hm; cases hm
  | some ds =>
    rw [es, Option.bind_some] at hm
    split at hm
    · rename_i hlim
      cases ec : compLO f mc me (goneAt ρ vs) ds with
      | none => rw [ec] at hm; cases hm
      | some ys =>
        rw [ec] at hm
        cases hm
        refine ⟨P, S, T, ρ, ds, w, es, fun J H1 P1 g1 io => ?_⟩
        intro Dl hD
        obtain ⟨G, Y, wk, hG, hY⟩ := io
        have hP1 : P1 Dl = none := none_of g1.ph hD
        -- the invariant
        refine lc_it wk (fun i Hh => ∃ P2 zs acc UU, compLO f mc me (goneAt ρ vs) (ds.take i) = some zs ∧ Gr P1 H1 P2 Hh ∧ P2 Dl = none ∧ Hh Dl = some (.lst acc) ∧ RepL c P2 Hh zs acc UU ∧ (∀ a, UU a ≤ 1) ∧ (∀ a, 0 < UU a → a ≠ Dl ∧ H1 a = none ∧ P2 a = none ∧ Hh a ≠ none)) ?_ ?_ ?_ ?_
        · exact ⟨P1, [], [], fz, rfl, ⟨.refl _, ex_new hD, g1.ph.trans (ex_new hD), fun a z => .inl z⟩, hP1, upd_same, ⟨rfl, rfl⟩, fun a => Nat.zero_le _, fun a h => absurd h (Nat.lt_irrefl 0)⟩
        · rintro i Hh hi ⟨P2, zs, acc, UU, h1, g2, _⟩
          exact hG P2 Hh g2
        · rintro i x Hh H3 hi ⟨P2, zs, acc, UU, h1, g2, hD2, hDl, rl, hU1, hU2⟩ y
          obtain ⟨P3, d, g3, hd, rd⟩ := hY i P2 Hh x H3 g2 hi y
          obtain ⟨zs', ρ1, k, t1, t2, t3, t4, t5⟩ := compLO_turn ec hd
          rw [h1] at t1
          cases t1
          obtain ⟨S3, w3⟩ := (((w.grow g1).grow g2).grow g3).wipe vs hk
          have w3' : Wd c E P3 S3 (fa T fz) (L2.wipe σ vs) H3 (goneAt ρ vs) := by rw [fa_fz]; exact w3
          have hD3 : P3 Dl = none := gr_nw g3 Dl hD2 (by rw [hDl]; simp)
          refine ⟨P3, S3, T, fz, _, d, ρ1, w3', rd, t2, fun σ' S' w4 l4 k4 => ⟨?_, P3, S', T, ρ1, k, w4, t3, fun H4 P4 g4 => ?_⟩⟩
          · rw [wipe_eq (vs := vs) l4 fun j hj => k4 j fun z => hj (ht j z)]
            exact wipe_wipe σ vs
          · have hDl3 := g3.h _ _ hDl
            have hD4 : P4 Dl = none := gr_nw g4 Dl hD3 (by rw [hDl3]; simp)
            have hDl4 := g4.h _ _ hDl3
            have u4 : ∀ a, 0 < UU a → a ≠ Dl ∧ H1 a = none ∧ P4 a = none ∧ H4 a ≠ none := fun a ha => by
              obtain ⟨z1, z2, z3, z4⟩ := hU2 a ha
              have z5 := ex_keep g3.h a z4
              exact ⟨z1, z2, gr_nw g4 a (gr_nw g3 a z3 z4) z5, ex_keep g4.h a z5⟩
            cases k with
            | true =>
              obtain ⟨y', e1, e3⟩ := t4 rfl
              refine iteT ⟨P4, S', T, ρ1, y', w4.grow g4, e1, fun v H5 P5 U5 g5 r5 hV1 hV2 => ?_⟩
              have hD5 : P5 Dl = none := gr_nw g5 Dl hD4 (by rw [hDl4]; simp)
              have gg := ((g2.trans g3).trans g4).trans g5
              have hDl5 : H5 Dl = some (.lst acc) := g5.h _ _ hDl4
              have hVD : ∀ a, 0 < U5 a → a ≠ Dl := fun a ha e => by
                subst e
                have := (hV2 a ha).1
                rw [hDl4] at this; cases this
              refine ⟨acc, hDl5, ?_, P5, zs ++ [y'], acc ++ [v], fa UU U5, e3, ⟨gg.p, fun a o z => ?_, fun a o z => ?_, gg.new⟩, hD5, upd_same, ?_, fun a => ?_, fun a ha => ?_⟩
              · have h2 := compLO_len h1
                have h3 := rl.length
                have : zs.length ≤ ds.length := Nat.le_trans h2 (by rw [List.length_take]; omega)
                have : (zs ++ [y']).length ≤ (ds.take (i + 1)).length := compLO_len e3
                rw [List.length_append, List.length_take] at this
                have e4 : acc.length < LIM := by
                  simp only [List.length_cons, List.length_nil] at this
                  omega
                exact lim_lt e4
              · by_cases z2 : a = Dl
                · subst z2; rw [hD] at z; cases z
                · rw [upd_ne z2]; exact gg.h a o z
              · by_cases z2 : a = Dl
                · subst z2; rw [hD5] at z; cases z
                · rw [upd_ne z2]; exact g5.ph a o z
              · refine RepL.append (RepL.mono ((g3.p.trans g4.p).trans g5.p) zs acc UU (fun a o z h => ?_) rl) ⟨v, [], U5, fz, rfl, Rep.mono (.refl _) y' v U5 (fun a o z h => ?_) r5, ⟨rfl, rfl⟩, (fa_fz _).symm⟩
                · rw [upd_ne (u4 a z).1]; exact g5.h _ _ (g4.h _ _ (g3.h _ _ h))
                · rw [upd_ne (hVD a z)]; exact h
              · have := hU1 a; have := hV1 a
                simp only [fa]
                by_cases z : 0 < UU a
                · by_cases z2 : 0 < U5 a
                  · exact absurd (hV2 a z2).1 (u4 a z).2.2.2
                  · omega
                · omega
              · by_cases z : 0 < UU a
                · obtain ⟨z1, z2, z3, z4⟩ := u4 a z
                  exact ⟨z1, z2, gr_nw g5 a z3 z4, by rw [upd_ne z1]; exact ex_keep g5.h a z4⟩
                · have z2 : 0 < U5 a := by simp only [fa] at ha; omega
                  refine ⟨hVD a z2, ?_, (hV2 a z2).2, by rw [upd_ne (hVD a z2)]; exact Rep.there y' v U5 r5 a z2⟩
                  cases z3 : H1 a with
                  | none => rfl
                  | some o =>
                    have := (hV2 a z2).1
                    rw [g4.h _ _ (g3.h _ _ (g2.h _ _ (by exact z3)))] at this
                    cases this
            | false =>
              refine iteF ⟨P4, zs, acc, UU, t5 rfl, (g2.trans g3).trans g4, hD4, hDl4, RepL.mono (g3.p.trans g4.p) zs acc UU (fun a o _ h => g4.h _ _ (g3.h _ _ h)) rl, hU1, u4⟩
        · rintro Hh ⟨P2, zs, acc, UU, h1, g2, hD2, hDl, rl, hU1, hU2⟩
          rw [List.take_length, ec] at h1
          cases h1
          refine q _ Hh P2 (fa (one Dl) UU) (g1.trans g2) ⟨Dl, acc, UU, rfl, hDl, rl, rfl⟩ (fun a => ?_) fun a z => ?_
          · have := hU1 a; have : one Dl a ≤ 1 := one_le a
            simp only [fa]
            by_cases z : 0 < UU a
            · have : one Dl a = 0 := by simp [one, (hU2 a z).1]
              omega
            · omega
          · have old : H1 a = none ∧ P2 a = none := by
              by_cases z2 : 0 < UU a
              · exact ⟨(hU2 a z2).2.1, (hU2 a z2).2.2.1⟩
              · have z3 : 0 < one Dl a := by simp only [fa] at z; omega
                rw [one_pos z3]
                exact ⟨hD, hD2⟩
            refine ⟨?_, old.2⟩
            cases z2 : H a with
            | none => rfl
            | some o => rw [g1.h _ _ z2] at old; cases old.1
    · cases hm
section
variable {X : Cx} {cl : Nat → Addr} {E : En} {pos : Pos}
theorem s_setLcO (i : Nat) {y : Str} {py : Pos} {elt tg iter : Expr} {ifs : List Expr} {scope : Scope} (own : List (Str × Nat)) {spos : Pos} {vs : List Nat} {tl : List Nat} {f : TgM} {mc : BM} {me : RM} {ms : AM} (hvs : own.map (·.2) = vs) (hc : X.calm = true) (hN : X.N.Nodup) (hy : X.N[i]? = some y) (hyl : X.env.scope.names.lookup y = some .local) (hki : E.kp[i]? ≠ some true)
    (hi : PI X tg iter (tIV ⟨X.K, cl, X.w⟩ E ms)) (ok : BlkOk X.N X.env.scope scope own)
    (hg : ∀ (s : Shared) (H : Hp) (C : Addr) (c : List (Str × Addr)) (fp : List Addr), PG (X.blk s H scope (compEnvC scope c C X.env) fp) tg (tPG ⟨X.K, cl, X.w⟩ E tl f)) (ht : ∀ (s : Shared) (H : Hp) (C : Addr) (c : List (Str × Addr)) (fp : List Addr), PTs (X.blk s H scope (compEnvC scope c C X.env) fp) ifs (tTs ⟨X.K, cl, X.w⟩ E mc))
    (he : ∀ (s : Shared) (H : Hp) (C : Addr) (c : List (Str × Addr)) (fp : List Addr), PE (X.blk s H scope (compEnvC scope c C X.env) fp) elt (tF ⟨X.K, cl, X.w⟩ E me)) (h1 : ∀ j ∈ tl, j ∈ vs) (h2 : ∀ j ∈ vs, E.kp[j]? ≠ some true)
    (hsw : swapsWith (.ListComp elt [⟨tg, iter, ifs, 0⟩] scope pos) (some (.Name y py)) spos.line X.env = pure true) (hs : ∀ x, foldedSetIterable iter X.env x = pure x := by intro _; rfl) :
    PS X (.Assign [.Name y py] (.ListComp elt [⟨tg, iter, ifs, 0⟩] scope pos) spos) (tS ⟨X.K, cl, X.w⟩ E (asgM (nameT i) (upF (compOM vs f mc me ms)))) := by
  subst hvs
  refine PS_imp (ps_setLc hc hN hy hyl hsw hi ok hg ht he hs) fun D σ H ⟨P, S, ρ, fl, ρ', w, hm, q⟩ => ?_
  unfold asgM upF at hm
  cases eg : compOM (own.map (·.2)) f mc me ms ρ with
  | none => rw [eg] at hm; cases hm
  | some d =>
    rw [eg] at hm
    cases hm
    refine lcO_run (c := ⟨X.K, cl, X.w⟩) h1 h2 ⟨P, S, fz, ρ, d, w, eg, fun v H' P' U g r u1 u2 => ?_⟩
    obtain ⟨S2, w2⟩ := (w.aside g u1 u2 (Rep.there d v U r)).store r i hki
    exact q _ H' P' S2 w2 g.p
end
theorem compLO_T {α β : Type} {e : α → D} {f : β → D} {t : TgM} {mc : BM} {me : RM} {ρ0 : List D} {env : α → List D} {p : α → Option Bool} {g : α → Option β} (ht : ∀ x, t (e x) ρ0 = some (env x)) (hc : ∀ x, Et mc (env x) (p x)) (he : ∀ x, Ev f me (env x) (g x)) :
    ∀ (xs : List α) (ys : List β), compG p g xs = some ys → compLO t mc me ρ0 (xs.map e) = some (ys.map f)
  | [], ys, h => by cases h; rfl
  | x :: xs, ys, h => by
    obtain ⟨k, h1, h2⟩ := ob_some h
    rw [List.map_cons, compLO, ht, Option.bind_some, hc x k h1, Option.bind_some]
    cases k with
    | true =>
      rw [if_pos rfl] at h2 ⊢
      obtain ⟨y, h3, h4⟩ := ob_some h2
      obtain ⟨zs, h5, h6⟩ := ob_some h4
      cases h6
      rw [he x y h3, Option.bind_some, compLO_T ht hc he xs zs h5]; rfl
    | false =>
      rw [if_neg (by decide)] at h2 ⊢
      exact compLO_T ht hc he xs ys h2
theorem x_compO {α β : Type} {e : α → D} {f : β → D} {vs : List Nat} {t : TgM} {mc : BM} {me : RM} {ms : AM} {ρ : List D} {p : α → Option Bool} {g : α → Option β} {o : Option (List α)} (env : α → List D) (hi : Ei e ms ρ o) (ht : ∀ x, t (e x) (goneAt ρ vs) = some (env x)) (hc : ∀ x, Et mc (env x) (p x)) (he : ∀ x, Ev f me (env x) (g x)) :
    Ev (eL true f) (compOM vs t mc me ms) ρ (o.bind fun xs => compT p g xs) := fun ys hy => by
  obtain ⟨xs, h1, h2⟩ := ob_some hy
  unfold compT at h2; split at h2
  · rename_i q
    unfold compOM
    rw [hi xs h1, Option.bind_some, if_pos (by simpa using q), compLO_T ht hc he xs ys h2]; rfl
  · cases h2
end LI

namespace LI
open PySem L2
section
variable {X : Cx} {cl : Nat → Addr} {E : En} {e a b : Expr} {es : List Expr} {pos : Pos} {m ma mb : RM} {ms : AM}
end
end LI
namespace LI
open PySem L2
section
variable {X : Cx} {cl : Nat → Addr} {E : En} {e o i : Expr} {pos pos' : Pos} {mi : RM} {g : GM} {L : Lens}
end
section
variable {α β γ σ τ κ : Type} {Q : Fl → List D → τ → Prop} {e : α → D} {env : α → List D} {m : SM} {ρ : List D} {L : Lens} {mi : RM} {g : GM} {o : Option α}
end
end LI

namespace LI
open PySem L2
def isiCM (n : Nat) (b : Bool) (m : RM) : RM := fun ρ => (m ρ).bind fun d => match d with
  | .obj _ k _ _ => if k = n then some (.bl b) else none
  | _ => none
section
variable {X : Cx} {cl : Nat → Addr} {E : En} {a : Expr} {pos p p2 : Pos} {ma : RM}
end
@[simp] theorem ev_isiC {n : Nat} {b : Bool} {m : RM} {ρ : List D} : isiCM n b m ρ = (m ρ).bind fun d => match d with
  | .obj _ k _ _ => if k = n then some (.bl b) else none
  | _ => none := (rfl)
class Dc {α : Type} (e : α → D) (f : outParam (D → Option α)) : Prop where
  dc : ∀ d x, f d = some x → d = e x
  od : ∀ x, f (e x) = some x
def dI : D → Option Int
  | .int i => some i
  | _ => none
def dS : D → Option Ts
  | .str s => if (s.map Char.ofNat).map Char.toNat = s then some (s.map Char.ofNat) else none
  | _ => none
def dAll {α : Type} (f : D → Option α) : List D → Option (List α)
  | [] => some []
  | d :: ds => (f d).bind fun x => (dAll f ds).bind fun xs => some (x :: xs)
theorem ofNat_toNat (c : Char) : Char.ofNat c.toNat = c := by
  apply Char.ext
  have := Char.ofNat_toNat c
  exact congrArg Char.val this
theorem ts_back (s : Ts) : (s.map Char.toNat).map Char.ofNat = s := by
  rw [List.map_map]
  conv => rhs; rw [← List.map_id s]
  exact List.map_congr_left fun c _ => ofNat_toNat c
instance : Dc eI dI where
  dc := fun d x h => by cases d <;> simp [dI] at h; rw [h]; rfl
  od := fun _ => rfl
instance : Dc eS dS where
  dc := fun d x h => by
    cases d with
    | str s =>
      unfold dS at h
      dsimp only at h
      split at h
      · rename_i q
        cases h
        unfold eS; rw [q]
      · cases h
    | _ => cases h
  od := fun x => by
    show (if _ then _ else _) = _
    rw [ts_back, if_pos rfl]
  theorem dAll_dc {α : Type} {e : α → D} {f : D → Option α} [Dc e f] : ∀ (ds : List D) (xs : List α), dAll f ds = some xs → ds = xs.map e
    | [], xs, h => by cases h; rfl
    | d :: ds, xs, h => by
      obtain ⟨x, h1, h2⟩ := ob_some h
      obtain ⟨ys, h3, h4⟩ := ob_some h2
      cases h4
      rw [Dc.dc (e := e) d x h1, dAll_dc (e := e) ds ys h3, List.map_cons]
  theorem dAll_od {α : Type} {e : α → D} {f : D → Option α} [Dc e f] : ∀ xs : List α, dAll f (xs.map e) = some xs
    | [] => rfl
    | x :: xs => by rw [List.map_cons, dAll, Dc.od (e := e), Option.bind_some, dAll_od (e := e) xs]; rfl
theorem x_dec {α : Type} {e : α → D} {f : D → Option α} [Dc e f] {m : RM} {ρ : List D} {o : Option An} (h : Ev eA m ρ o) : Ev e m ρ (o.bind fun x => f x.d) := fun z hz => by
  obtain ⟨x, h1, h2⟩ := ob_some hz
  rw [h x h1]
  show some x.d = _
  rw [Dc.dc (e := e) x.d z h2]
def appO (i : Nat) (g : GM) : GM := fun ρ => match ρ[i]? with
  | some (.lst true _) => (g ρ).bind fun r => match r.2[i]? with
    | some (.lst true ds) => if ds.length < LIM then some (.non, r.2.set i (.lst true (ds ++ [r.1]))) else none
    | _ => none
  | _ => none
section
variable {X : Cx} {cl : Nat → Addr} {E : En} {e : Expr} {pos apos : Pos} {g : GM}
theorem g_appO (i : Nat) {x : Str} {px : Pos} (he : PE X e (tG ⟨X.K, cl, X.w⟩ E g)) (hN : X.N[i]? = some x := by rfl) (hv : Vis X.env.scope x := by first | exact Or.inl rfl | exact Or.inr (Or.inl rfl) | exact Or.inr (Or.inr rfl))
    (hd : (x == ("__debug__" : Str)) = false := by decide) (hcd : (x == ("__classdict__" : Str)) = false := by decide)
    (hbase : attributeBase (.Name x px) "append" X.env (eval (.Name x px) X.env) = eval (.Name x px) X.env := by rfl)
    (hfew : ((backTo pos (starEach [e] X.env)).all (fun x => !x.1) && (backToKw pos (keywordEach [] X.env)).all (fun x => x.1.isSome)
      && decide ([e].length + ([] : List Keyword).length + (if ([] : List Keyword).isEmpty then 0 else 1) < 30)) = true := by rfl)
    (hline : (apos.endLine == pos.line) = true := by rfl) (hs : starEach [e] X.env = (false, eval e X.env) :: starEach [] X.env := by rfl) : PE X (.Call (.Attribute (.Name x px) "append" apos) [e] [] pos) (tG ⟨X.K, cl, X.w⟩ E (appO i g)) := by
  refine PE_imp (pe_bm PySem.F.plainAttrs_list PySem.F.slot_list_append PySem.F.type_list_append mt_append (pe_var hN hv hd hcd) (pa_cons he pa_nil hs) hbase hfew hline hs) fun σ H Q ⟨P, S, T, ρ, d, ρ', w, hm, q⟩ => ?_
  unfold appO at hm
  split at hm
  · rename_i ds0 hi
    cases eg : g ρ with
    | none => rw [eg] at hm; cases hm
    | some r =>
      obtain ⟨dy, ρ1⟩ := r
      rw [eg, Option.bind_some] at hm
      split at hm
      · rename_i ds h2
        split at hm
        · rename_i hl
          cases hm
          obtain ⟨v, Sd0, R0, hv0, r0, _, _⟩ := w.env.focus hi rfl
          obtain ⟨a0, xs0, T0, ev0, h0, _⟩ := r0
          refine ⟨v, hv0, by rw [ev0]; exact .inl ⟨rfl, xs0, .inl (.inl h0)⟩, P, S, T, ρ, dy, ρ1, w, eg, fun z H1 P1 S1 U1 w1 ep r1 kT => ?_⟩
          obtain ⟨Sd, R, l⟩ := loc_v w1 (show ρ1[i]? = some _ from h2) rfl hv0
          obtain ⟨a, xs, T1, ev, hh, rl, hf⟩ := l.rep
          have hS : ∀ b, Sd b = one a b + T1 b := fun b => by rw [hf]; rfl
          refine ⟨a, xs, z, ev, rfl, hh, by rw [← rl.length]; exact lim_lt hl, ?_⟩
          have kp := fun o => keep_own w1 l hS o
          have hu : ∀ b, 0 < T1 b + U1 b → H1 b ≠ none := fun b hb => by
            by_cases hU : 0 < U1 b
            · exact w1.th b (by simp only [fa]; omega)
            · exact RepL.there ds xs T1 rl b (by omega)
          have rnew : RepL ⟨X.K, cl, X.w⟩ P1 (upd H1 a (.lst (xs ++ [z]))) (ds ++ [dy]) (xs ++ [z]) (fa T1 U1) := by
            have := RepL.append (repL_h' rl fun b u hb hu => kp (.lst (xs ++ [z])) b u (by omega) hu) (show RepL ⟨X.K, cl, X.w⟩ P1 (upd H1 a (.lst (xs ++ [z]))) [dy] [z] (fa U1 fz) from ⟨z, [], U1, fz, rfl, Rep.mono (.refl _) dy z U1 (fun b u hb hu => kp _ b u (by simp only [fa]; omega) hu) r1, ⟨rfl, rfl⟩, rfl⟩)
            rwa [fa_fz] at this
          have w2 := loc_own w1 l hS hu (.lst (xs ++ [z])) (.lst true (ds ++ [dy])) (fa T1 U1) fz ⟨a, _, _, ev, upd_same, rnew, rfl⟩ (fun b => by simp only [fa, fz]; omega)
          exact q .non _ P1 _ fz w2 ep ⟨rfl, rfl⟩ fun b u hb hu => kp _ b u (by simp only [fa]; omega) (kT b u hb hu)
        · cases hm
      · cases hm
  · cases hm
end
theorem eg_appO {α β : Type} {ρ : List D} {e : α → D} {o : Option α} {g : GM} {a : β → D} {i : Nat} {xs0 : List β} {xs : α → List β} {ys : α → β} {env0 : α → List D} {env : α × List β → List D} (h0 : ρ[i]? = some (eL true a xs0)) (hg : Eg e env0 g ρ o) (he : ∀ x, e x = a (ys x)) (h1 : ∀ x, (env0 x)[i]? = some (eL true a (xs x))) (hp : ∀ p, (env0 p.1).set i (eL true a p.2) = env p) :
    Eg (fun _ => .non) env (appO i g) ρ (o.bind fun x => (appT (xs x) (ys x)).bind fun z => some (x, z)) := fun p hy => by
  obtain ⟨x, h2, h3⟩ := ob_some hy
  obtain ⟨z, h4, h5⟩ := ob_some h3
  cases h5
  unfold appT at h4
  split at h4
  · rename_i q
    cases h4
    unfold appO
    rw [h0]
    show (g ρ).bind _ = _
    rw [hg x h2, Option.bind_some]
    simp only [he, h1]
    show (if ((xs x).map a).length < LIM then _ else none) = _
    rw [if_pos (by simpa using q), ← hp]
    simp [eL]
  · cases h4
section
variable {α β σ τ : Type} {Q : Fl → List D → τ → Prop} {e : α → D} {env : α → List D} {m : SM} {ρ : List D} {L : Lens} {mi : RM} {g : GM} {o : Option α}
end
end LI

namespace LI
open PySem L2
section
variable {X : Cx} {cl : Nat → Addr} {E : En} {e o : Expr} {pos apos : Pos} {m : RM} {L : Lens}
end
section
variable {α β : Type} {ρ : List D} {L : Lens} {m : RM}
end
section
variable {α β γ δ ε ζ : Type} {a : α → D} {b : β → D} {c : γ → D} {d : δ → D} {e : ε → D} {f : ζ → D}
instance [Nic a] [Nic b] [Nic c] [Nic d] : Nic (e4 a b c d) := ⟨fun x => by simp [e4, noIce, noIceL, Nic.ni]⟩
end
end LI

namespace LI
open PySem L2
end LI

namespace LI
open PySem L2
section
variable {X : Cx} {cl : Nat → Addr} {E : En} {e o : Expr} {pos apos : Pos} {m mo : RM}
end
section
variable {X : Cx} {cl : Nat → Addr} {E : En} {e o : Expr} {pos apos : Pos} {m mo : RM}
end
end LI

namespace LI
open PySem L2
section
variable {X : Cx}
end
section
variable {X : Cx} {cl : Nat → Addr} {E : En} {pos pos2 : Pos}
end
end LI

namespace LI
open PySem PySem.Spec PyProof.Rows L2

structure NOk (K : PySem.W.Frag) (H : Hp) (a : Addr) (l : List (NestedKey × Addr × V)) : Prop where
  ne : (a == sysModules) = false
  le : l.length ≤ sizeLine
  nd : (l.map (·.1)).Nodup
  at_ : ∀ p ∈ l, NkRep K H p.1 (.ref p.2.1) ∧ p.1.depth ≤ 8
def valN (l : List (NestedKey × Addr × V)) (k : NestedKey) : Option V := valV (l.map fun p => (p.1, p.2.2)) k
section
variable {X : Cx} {pins : List (Addr × Obj)} {σ : L2.St} {H : Hp} {s : Shared}
def DGetN (K : PySem.W.Frag) (w : World) (H : Hp) (a : Addr) (y : V) (r : Option V) : Prop :=
  ∃ l k b, DnAt w H a l ∧ NOk K H a l ∧ y = .ref b ∧ NkRep K H k (.ref b) ∧ k.depth ≤ 8 ∧ r = valN l k
def IsDN (K : PySem.W.Frag) (w : World) (H : Hp) (a : Addr) : Prop := ∃ l, DnAt w H a l ∧ NOk K H a l
variable {a : Addr} {y v d : V} {u r : Value} {o : Option V} {A : Around} {E : Value → Shared → Prop}
theorem DGetN.is (g : DGetN X.K X.w H a y o) : IsDN X.K X.w H a := by
  obtain ⟨l, _, _, e, ok, _⟩ := g
  exact ⟨l, e, ok⟩
end
section
variable {X : Cx} {o i e f value : Expr} {pos pos' tpos apos cpos : Pos} {td ty tv tx : TE}
end
end LI

namespace LI
open PySem PySem.Spec PyProof.Rows L2
def keyN : Key → NestedKey
  | .inl i => .num i
  | .inr x => .text x
mutual
/-- a thing as a key -/
def toNk : D → Option NestedKey
  | .non => some .none
  | .int i => some (.num i)
  | .str s => some (.text ⟨s.toArray⟩)
  | .kst ss => some (.tup (ss.map fun s => .text ⟨s.toArray⟩))
  | .key ks => some (.tup (ks.map keyN))
  | .tup ds => (toNkL ds).map .tup
  | _ => none
def toNkL : List D → Option (List NestedKey)
  | [] => some []
  | d :: ds => (toNk d).bind fun k => (toNkL ds).map fun ks => k :: ks
end
def nkT (d : D) : Option NestedKey := (toNk d).bind fun k => match k with
  | .tup ks => if (NestedKey.tup ks).depth ≤ 8 then some (.tup ks) else none
  | _ => none
section
variable {X : Cx} {cl : Nat → Addr} {E : En} {e a b o i : Expr} {es : List Expr} {pos p apos cpos : Pos} {m ma mb : RM} {ms : AM} {L : Lens}
end
class Nk {κ : Type} (e : κ → D) (f : outParam (κ → NestedKey)) : Prop where
  nk : ∀ x, nkT (e x) = some (f x)
  inj : ∀ x y, f x = f y → x = y
def n2 {α β : Type} (a : α → NestedKey) (b : β → NestedKey) (t : α × β) : NestedKey := .tup [a t.1, b t.2]
section
variable {α β γ κ τ : Type} {a : α → D} {b : β → D} {e : α → D} {ek : κ → D} {f : α → NestedKey} {g : β → NestedKey} {nk : κ → NestedKey} {i j : Nat} {o : Bool} {ρ : List D} {m ma mb : RM}
end
section
variable {X : Cx} {cl : Nat → Addr} {E : En} {e : Expr} {m : RM}
end
end LI

namespace LI
open PySem PySem.Spec PyProof.Rows L2 PySem.W

structure Sk (P : Program) (w : World) (κ : Type) [DecidableEq κ] where
  knd : KeyKind P w κ
  of : κ → Tok → Value
  key : Value → κ
  enc : κ → PyData
  vv : κ → V
  is_of : ∀ k t, knd.is k (of k t) = true
  is_iff : ∀ k j t, knd.is k (of j t) = true ↔ j = k
  scan : ∀ k t, (of k t).scannable = true
  key_of : ∀ k t, key (of k t) = k
  reads : ∀ (h : Heap) k t, Reads h (of k t) (enc k) []
  alk : ∀ k j, alike (enc k) (enc j) = true
  oth : ∀ k, enc k ≠ .none ∧ ∀ xs, enc k ≠ .tuple xs
  dep : ∀ k, (enc k).depth = 0
  rel : ∀ k t, RelV (vv k) (of k t)
  back : ∀ k u, RelV (vv k) u → ∃ t, u = of k t
  tr : ∀ a b c, dataLe false enc a b = true → dataLe false enc b c = true → dataLe false enc a c = true
  tot : ∀ a b, (dataLe false enc a b || dataLe false enc b a) = true
  anti : ∀ a b, dataLe false enc a b = true → dataLe false enc b a = true → a = b
section
variable {P : Program} {w : World} {κ : Type} [DecidableEq κ] {Z : Sk P w κ} {A : Around} {E : Value → Shared → Prop} {s : Shared} {q : Addr} {M : κ → Bool} {c : Nat}
end
end LI

namespace LI
open PySem PySem.Spec PyProof.Rows L2 PySem.W

section
variable {X : Cx} {κ : Type} [DecidableEq κ] {Z : Sk X.prog X.w κ}
end
section
variable {X : Cx} {cl : Nat → Addr} {E : En} {e : Expr} {m : RM} {pos p1 p2 pos2 : Pos}
end
end LI

namespace LI
open PySem PySem.Spec PyProof.Rows L2 PySem.W

section
variable {P : Program} {w : World} {K : PySem.W.Frag} {tg : Expr} {d : Addr} {o : Obj} {l : List (NestedKey × Addr × V)}
end
section
variable {X : Cx} {cl : Nat → Addr} {E : En} {e tg : Expr} {m : RM} {pos p : Pos}
end
section
variable {X : Cx} {pins : List (Addr × Obj)} {σ : L2.St} {H : Hp} {s : Shared}
end
end LI

namespace LI
open PySem PySem.Spec PyProof.Rows L2
section
variable {α κ : Type} {ek : κ → D} {nk : κ → NestedKey} {a : α → D} {ρ : List D} {m : RM} {o : Bool}
end
end LI

namespace LI
open PySem L2
section
variable {α β κ σ τ : Type} [DecidableEq κ] {o : Bool} {a : α → D} {ek : κ → D} {kq : κ → Key} [Ky ek kq] {ρ : List D} {L : Lens} {mi : RM} {g : GM}
end
end LI

namespace LI
open PySem PySem.Spec PyProof.Rows L2 PySem.W
section
variable {prog : Program} {w : World} {A : Around} {E : Value → Shared → Prop} {s : Shared}
end
section
variable {X : Cx} {cl : Nat → Addr} {E : En} {e : Expr} {m : RM} {pos p1 p2 kpos : Pos}
end
end LI

namespace LI
open PySem PySem.Spec PyProof.Rows L2 PySem.W
section
variable {X : Cx} {cl : Nat → Addr} {E : En} {a b : Expr} {ga gb : GM} {pos : Pos}
end
section
variable {X : Cx} {cl : Nat → Addr} {E : En} {a : Expr} {g : GM} {pos : Pos}
end
end LI

namespace LI
open PySem PySem.Spec PyProof.Rows L2 PySem.W
section
variable {P : Program} {w : World} {K : PySem.W.Frag} {mg : Str → Option Value} {base : Heap} {sp : Sp}
end
section
variable {X : Cx} {cl : Nat → Addr} {E : En} {rest : List Stmt} {ma mb : SM}
end
section
variable {X : Cx} {cl : Nat → Addr} {E : En} {k : Nat} {f : Addr} {fd : FuncData} {F : FM} {CX : CXT} {XE : XK} {x y z : Str} {p cp apos pos c0 c1 : Pos} {j0 j1 : Nat}
end
section
variable {X : Cx} {cl : Nat → Addr} {E : En} {e o : Expr} {pos apos : Pos} {m mo : RM}
end
end LI

namespace LI
open PySem L2
section
variable {X : Cx} {cl : Nat → Addr} {E : En} {pos pos2 : Pos}
end
end LI

namespace LI
open PySem PySem.Spec PyProof.Rows L2 PySem.W
section
variable {X : Cx} {cl : Nat → Addr} {E : En} {pos : Pos}
end
section
variable {X : Cx} {cl : Nat → Addr} {E : En} {e : Expr} {es : List Expr} {pos p apos px : Pos} {ms : AGM} {CX : CXT} {k : Nat} {f : Addr} {fd : FuncData} {ps : List Str} {F : FM} {XE : XK} {x nm : Str}
end
section
variable {P : Program} {w : World} {K : PySem.W.Frag} {mg : Str → Option Value} {base : Heap} {cl : Nat → Addr}
end
section
variable {X : Cx} {cl : Nat → Addr} {E : En} {e : Expr} {es : List Expr} {pos p : Pos} {ms : AM} {CX : CXT} {k : Nat} {f : Addr} {fd : FuncData} {ps : List Str} {F : FM} {XE : XK} {x : Str} {dd : List D} {dvs : List V} {us : List Value}
end
section
variable {K : PySem.W.Frag} {x qual : Str} {st : Stmt} {dvs : List V} {f : Addr} {fd : FuncData} {ps : List Str}
end
section
variable {X : Cx} {cl : Nat → Addr} {E : En} {e : Expr} {es : List Expr} {pos p : Pos} {ms : AGM} {x : Str}
end
section
variable {X : Cx} {cl : Nat → Addr} {E : En} {pos : Pos}
end
section
variable {X : Cx} {cl : Nat → Addr} {E : En} {pos p1 p2 p3 : Pos} {e : Expr} {m : RM} {k : Nat}
end
section
variable {X : Cx} {cl : Nat → Addr} {E : En} {e : Expr} {es : List Expr} {pos p : Pos} {ms : AM} {CX : CXT} {k : Nat} {f : Addr} {fd : FuncData} {ps : List Str} {F : FM} {XE : XK} {x : Str} {dd : List D} {dvs : List V}
end
section
variable {X : Cx} {cl : Nat → Addr} {E : En} {e : Expr} {es : List Expr} {pos p : Pos} {ms : AGM} {CX : CXT} {k : Nat} {f : Addr} {fd : FuncData} {ps : List Str} {F : FM} {XE : XK} {x : Str} {dd : List D} {dvs : List V}
end
section
variable {X : Cx} {cl : Nat → Addr} {E : En} {a : Expr} {pos p2 : Pos} {ma : RM}
end
section
variable {X : Cx} {cl : Nat → Addr} {E : En} {e o : Expr} {pos apos : Pos} {m mo : RM}
end
section
variable {X : Cx} {cl : Nat → Addr} {E : En} {e o : Expr} {pos apos : Pos} {m mo : RM}
end
section
variable {X : Cx} {e : Expr} {te : TE} {apos cpos pos p : Pos}
end
section
variable {X : Cx} {cl : Nat → Addr} {E : En} {e : Expr} {apos cpos pos p : Pos} {m : RM}
end
end LI

namespace LI
open PySem PySem.Spec PyProof.Rows L2 PySem.W
section
variable {X : Cx}
end
section
variable {κ α : Type} {ek : κ → D} {kk : κ → Key} {a b e' : α → D} {n : Nat}
end
section
variable {X : Cx} {cl : Nat → Addr} {E : En} {e : Expr} {es : List Expr} {pos p : Pos} {ms : AGM} {x : Str}
end
end LI

namespace LI
open PySem L2
section
variable {α : Type} {e : α → D} {m : RM} {ρ : List D} {o : Option (List α)} {w : Bool}
end
section
variable {X : Cx} {cl : Nat → Addr} {E : En} {tg a b c : Expr} {pos : Pos} {ma mb mc : RM}
end
section
variable {ρ : List D} {ma mb mc : RM}
end
end LI
namespace LRV
open PySem PySem.Spec PyProof.Rows PySem.W RT L2
section
variable {prog : Program} {w : World} {A : Around} {E : Value → Shared → Prop} {s : Shared}
end
section
variable {X : Cx}
end
end LRV
namespace LI
open PySem L2
section
variable {X : Cx} {cl : Nat → Addr} {E : En} {pos p p2 pos2 : Pos} {e : Expr} {m : RM}
end
end LI
namespace LI
open PySem L2
def PeA (a : An) : Prop := ∃ p, toP a.d = some p ∧ p.canLay0 = true ∧ p.depth ≤ 20 ∧ p.eqv p = true
theorem PeA.mk {α : Type} [DecidableEq α] {e : α → D} {n : Nat} [Pe e n] (hn : n ≤ 20) {a : An} {x : α} (h : a.d = e x) : PeA a :=
  ⟨Pe.p e x, by rw [h]; exact Pe.to (e := e) x, Pe.lay (e := e) x, Nat.le_trans (Pe.dep (e := e) x) hn, by rw [Pe.eq (e := e)]⟩
end LI

namespace LI
open PySem L2
section
variable {X : Cx} {cl : Nat → Addr} {E : En} {e o f0 : Expr} {apos cpos : Pos} {ma mb mc : RM}
end
end LI
namespace LI
open PySem L2
end LI

namespace LI
open PySem L2
section
variable {c : LC} {E : En} {P : Hp} {S T : FP} {σ : L2.St} {H : Hp} {ρ : List D}
end
end LI
namespace LI
open PySem L2
section
variable {X : Cx} {cl : Nat → Addr} {E : En} {pos : Pos}
end
section
variable {X : Cx} {cl : Nat → Addr} {E : En} {tg : Expr} {pos p : Pos} {x : Str}
end
section
variable {α σ τ : Type} {Q : Fl → List D → τ → Prop} {e : α → D} {r body : SM} {ρ : List D} {k : List α × σ → Option τ} {kl : List Nat}
end
end LI

namespace LI
open PySem L2
section
variable {X : Cx} {cl : Nat → Addr} {E : En} {pos apos : Pos} {o e : Expr} {g : GM} {m : RM}
end
section
variable {α β σ τ υ : Type} {Q : Fl → List D → υ → Prop} {e : α → D} {m body : SM} {ρ : List D} {f : TgM} {kl : List Nat} {ev : τ → D} {env : τ → List D} {g : GM} {o : Option τ}
end
end LI

namespace LI
open PySem PySem.Spec PyProof.Rows L2
section
variable {X : Cx} {pins : List (Addr × Obj)} {σ : L2.St} {H : Hp} {s : Shared}
variable {a : Addr} {y z d : V} {u r : Value} {A : Around} {E : Value → Shared → Prop}
end
section
variable {X : Cx} {o e f : Expr} {td ty tx : TE} {apos cpos : Pos}
end
section
variable {c : LC} {E : En} {P H : Hp} {S T : FP} {σ : L2.St} {ρ : List D} {L : Lens} {v : V} {d : D} {Sd R : FP}
end
section
variable {X : Cx} {cl : Nat → Addr} {E : En} {o i e : Expr} {p0 p1 p2 p3 p4 : Pos} {mi mx : RM} {L : Lens}
end
end LI
namespace LI
open PySem L2
section
variable {α β κ σ τ : Type} [DecidableEq κ] {o : Bool} {a : α → D} {ek : κ → D} {nk : κ → NestedKey} [Nk ek nk] {ρ : List D} {L : Lens} {mi : RM} {g : GM}
end
end LI
namespace LI
open PySem L2
end LI
namespace LI
open PySem L2
end LI

namespace LI
open PySem L2

@[simp] theorem foldT_nil {σ α : Type} {g : σ → α → Option σ} {s : σ} : foldT g [] s = some s := (rfl)
@[simp] theorem foldT_cons {σ α : Type} {g : σ → α → Option σ} {s : σ} {x : α} {xs : List α} : foldT g (x :: xs) s = (g s x).bind fun s => foldT g xs s := (rfl)
@[simp] theorem forT_nil {σ α τ : Type} {g : σ → α → Option (St σ τ)} {s : σ} : forT g [] s = some (.inl s) := (rfl)
theorem forT_cons {σ α τ : Type} {g : σ → α → Option (St σ τ)} {s : σ} {x : α} {xs : List α} : forT g (x :: xs) s = (g s x).bind fun u => match u with
    | .nx s => forT g xs s
    | .bk s => some (.inl s)
    | .rt t => some (.inr t) := (rfl)
@[simp] theorem seqT_inl {σ τ : Type} {s : σ} {k : σ → Option τ} : seqT (.inl s) k = k s := (rfl)
@[simp] theorem seqT_inr {σ τ : Type} {t : τ} {k : σ → Option τ} : seqT (.inr t) k = some t := (rfl)
theorem foldT_inv {σ α : Type} {g : σ → α → Option σ} (P : σ → Prop) : ∀ (xs : List α) (s : σ), P s → (∀ s x, P s → x ∈ xs → ∃ s', g s x = some s' ∧ P s') → ∃ s', foldT g xs s = some s' ∧ P s'
  | [], s, h, _ => ⟨s, rfl, h⟩
  | x :: xs, s, h, k => by
    obtain ⟨s1, h1, h2⟩ := k s x h (by simp)
    obtain ⟨s2, h3, h4⟩ := foldT_inv P xs s1 h2 fun s y hs hy => k s y hs (by simp [hy])
    exact ⟨s2, by rw [foldT_cons, h1]; exact h3, h4⟩
theorem forT_inv {σ α τ : Type} {g : σ → α → Option (St σ τ)} (P : σ → Prop) : ∀ (xs : List α) (s : σ), P s → (∀ s x, P s → x ∈ xs → ∃ s', g s x = some (.nx s') ∧ P s') → ∃ s', forT g xs s = some (.inl s') ∧ P s'
  | [], s, h, _ => ⟨s, rfl, h⟩
  | x :: xs, s, h, k => by
    obtain ⟨s1, h1, h2⟩ := k s x h (by simp)
    obtain ⟨s2, h3, h4⟩ := forT_inv P xs s1 h2 fun s y hs hy => k s y hs (by simp [hy])
    exact ⟨s2, by rw [forT_cons, h1]; exact h3, h4⟩
theorem forT_unit {α τ : Type} {g : Unit → α → Option (St Unit τ)} (xs : List α) (k : ∀ x, x ∈ xs → g () x = some (.nx ())) : forT g xs () = some (.inl ()) := by
  obtain ⟨s, h, _⟩ := forT_inv (fun _ => True) xs () trivial fun s x _ hx => ⟨(), k x hx, trivial⟩
  exact h
theorem forT_nxt {σ α τ : Type} {g : σ → α → Option (St σ τ)} (P : List α → σ → Prop) (h : ∀ x xs s, P (x :: xs) s → ∃ s', g s x = some (.nx s') ∧ P xs s') : ∀ (xs : List α) (s : σ), P xs s → ∃ s', forT g xs s = some (.inl s') ∧ P [] s'
  | [], s, hp => ⟨s, rfl, hp⟩
  | x :: xs, s, hp => by
    obtain ⟨s1, h1, h2⟩ := h x xs s hp
    obtain ⟨s2, h3, h4⟩ := forT_nxt P h xs s1 h2
    exact ⟨s2, by rw [forT_cons, h1]; exact h3, h4⟩
theorem compG_map {α β : Type} {g : α → Option β} {f : α → β} : ∀ {xs : List α}, (∀ x ∈ xs, g x = some (f x)) → compG (fun _ => some true) g xs = some (xs.map f)
  | [], _ => rfl
  | x :: xs, h => by simp [compG, h x (by simp), compG_map (xs := xs) fun z hz => h z (by simp [hz])]
theorem compT_map {α β : Type} {g : α → Option β} {f : α → β} {xs : List α} (hl : xs.length ≤ LIM) (h : ∀ x ∈ xs, g x = some (f x)) : compT (fun _ => some true) g xs = some (xs.map f) := by
  unfold compT; rw [if_pos hl]; exact compG_map h
theorem lenS_ok {s : Ts} (h : s.length ≤ LIM) : lenS s = some (s.length : Int) := if_pos h
theorem catS_ok {s t : Ts} (h : s.length + t.length ≤ LIM) : catS s t = some (s ++ t) := if_pos h
theorem catL_ok {α : Type} {s t : List α} (h : s.length + t.length ≤ LIM) : catL s t = some (s ++ t) := if_pos h
theorem appT_ok {α : Type} {s : List α} {x : α} (h : s.length < LIM) : appT s x = some (s ++ [x]) := if_pos h
theorem slS_ok {s : Ts} {lo hi : Option Int} (h : s.length ≤ LIM) : slS lo hi s = some (cutL s lo hi) := if_pos h
theorem rngT_ok {n : Int} (h1 : -1000000000000 ≤ n) (h2 : n ≤ 1000000000000) : rngT n = some ((List.range n.toNat).map fun (k : Nat) => (k : Int)) := if_pos ⟨by omega, by omega⟩
theorem mulT_ok {a b : Int} (h1 : -1000000000000000000 ≤ a) (h2 : a ≤ 1000000000000000000) : mulT a b = some (a * b) := if_pos (.inl ⟨by omega, by omega⟩)
theorem atI_ok {α : Type} {xs : List α} {i : Int} (h0 : 0 ≤ i) (h1 : i < (xs.length : Int)) : ∃ x ∈ xs, atI xs i = some x :=
  have : i.toNat < xs.length := by omega
  ⟨_, List.getElem_mem this, atI_at h0 this⟩
theorem ixS_mem {s : Ts} {i : Int} (h : s.length ≤ LIM) (h0 : 0 ≤ i) (h1 : i < (s.length : Int)) : ∃ c ∈ s, ixS s i = some [c] := by
  obtain ⟨c, h2, h3⟩ := atI_ok h0 h1
  exact ⟨c, h2, by unfold ixS; rw [if_pos h, h3]; rfl⟩
@[simp] theorem inS_1 {c : Char} {z : Ts} : inS [c] z = some (decide (c ∈ z)) := (rfl)
theorem mod_in (c n : Int) (hn : 0 < n) : 0 ≤ c % n ∧ c % n < n := ⟨Int.emod_nonneg _ (by omega), Int.emod_lt_of_pos _ hn⟩
end LI

namespace LI
open PySem L2
end LI

namespace LI
open PySem L2 PyProof.Rows
theorem takesN0 {X : Cx} : L2N.Takes X (fun _ _ _ _ => False) := fun _ _ q => by
  obtain ⟨_, _, _, _, _, _, _, _, _, _, _, _, _, _, _, _, z⟩ := q
  cases z
section
variable {P : Program} {w : World} {K : PySem.W.Frag} {mg : Str → Option Value} {base : Heap} {sp : Sp}
theorem okXN {x qual : Str} {st : Stmt} {f : Addr} {fd : FuncData} {N ps : List Str} {k : Nat} (F : Fun K x qual st f fd) (S : FnScope N ps (defScope st))
    (len : ∀ vs H Q E, sp vs H Q E → vs.length = ps.length)
    (hb : ∀ (cdv : Value) (A : Around) (outer : List Env) (s : Shared) (H : Hp) (vs : List V) (Q : VK) (E : XK), Room k (A.deeper (envOfC qual (defScope st) s.heap.objs.size f cdv)) → sp vs H Q E →
      ∃ t, PSs (cxOf (L2N.CX P w) P w K mg base N qual (defScope st) f cdv A outer s H E) (defBody st) t ∧ t { nx := fun _ H' => Q .non H', rt := Q } (L2.start N vs) H) :
    FnOk P w K mg base (L2N.CX P w) (k + 1) f fd ps sp := by
  obtain ⟨_, _, _, _, _, _, cdv, _, _, e0, lk, hcd⟩ := F.ex
  subst e0
  exact fn_of lk hcd S len fun A outer s H vs Q E hr h => hb cdv A outer s H vs Q E hr h
end
abbrev FX := List D → Option ((D × List D) ⊕ (Nat × List Str × List D × List D))
def XE0 (c : LC) (E : XK) (n : Nat) (fs : List Str) (vs : List V) (H' : Hp) : Prop :=
  (fs = [] → E (.ref (c.cl n)) none H') ∧ (fs ≠ [] → ∀ dd, H' dd = none → E (.ref (c.cl n)) (some dd) (upd H' dd (.xd (fs.zip vs))))
def spXr (c : LC) (P : Hp) (S : FP) (H : Hp) (vs : List V) (Q : VK) (E : XK) : (D × List D) ⊕ (Nat × List Str × List D × List D) → Prop
  | .inl (d, ds') => ∀ v H' P' U S', Stp P S H P' (fa U S') H' → Rep c P' H' d v U → RepL c P' H' ds' vs S' → Q v H'
  | .inr (n, fs, es, ds') => ∀ us H' P' S', Stp P S H P' S' H' → RepL c P' H' es us fz → RepL c P' H' ds' vs S' → XE0 c E n fs us H'
def spX (c : LC) (F : FX) : Sp := fun vs H Q E => ∃ P S ds r, RepL c P H ds vs S ∧ Ex P H ∧ (∀ a, S a ≤ 1) ∧ (∀ a, 0 < S a → P a = none) ∧ F ds = some r ∧ spXr c P S H vs Q E r
def runX (n : Nat) (kp : List Bool) (m : SM) : FX := fun ds => if ds.length = kp.length then (m (ds ++ List.replicate (n - ds.length) .gone)).bind fun r => match r.1 with
  | .rt d => some (.inl (d, maskL kp r.2))
  | .nx => some (.inl (.non, maskL kp r.2))
  | .ex k fs es => some (.inr (k, fs, es, maskL kp r.2))
  | _ => none
  else none
section
variable {P : Program} {w : World} {K : PySem.W.Frag} {mg : Str → Option Value} {base : Heap} {cl : Nat → Addr}
theorem ok_defX {x qual : Str} {st : Stmt} {f : Addr} {fd : FuncData} {N ps : List Str} {k : Nat} {kp : List Bool} {m : SM} (F : Fun K x qual st f fd) (S : FnScope N ps (defScope st)) (hk : kp.length = ps.length)
    (hbody : ∀ (cdv : Value) (A : Around) (outer : List Env) (s : Shared) (H : Hp) (E : XK) (e : En), e.kp = kp → (e.xw = fun cls d _ H' => E cls d H') → Room k (A.deeper (envOfC qual (defScope st) s.heap.objs.size f cdv)) →
      PSs (cxOf (L2N.CX P w) P w K mg base N qual (defScope st) f cdv A outer s H E) (defBody st) (tS ⟨K, cl, w⟩ e m)) : FnOk P w K mg base (L2N.CX P w) (k + 1) f fd ps (spX ⟨K, cl, w⟩ (runX N.length kp m)) := by
  refine okXN F S (fun vs H Q E h => ?_) (fun cdv A outer s H vs Q E hr h => ?_)
  · obtain ⟨Pp, Sp, ds, r0, r, _, _, _, hm, _⟩ := h
    unfold runX at hm
    split at hm
    · rename_i hl
      rw [← r.length, hl, hk]
    · cases hm
  · obtain ⟨Pp, Sp, ds, r0, r, e1, e2, e3, hm, q⟩ := h
    unfold runX at hm
    split at hm
    · rename_i hl
      have hlv : vs.length = kp.length := by rw [← r.length, hl]
      have hvs : ∀ i : Nat, kp[i]? = some true → ∃ v, vs[i]? = some v := fun i hi => by
        have hi' : i < kp.length := (List.getElem?_eq_some_iff.mp hi).1
        exact ⟨_, List.getElem?_eq_getElem (by omega)⟩
      refine ⟨_, hbody cdv A outer s H E ⟨Pp, H, Sp, kp, vs, hvs, fun cls d _ H' => E cls d H'⟩ rfl rfl hr, ?_⟩
      cases em : m (ds ++ List.replicate (N.length - ds.length) .gone) with
      | none => rw [em] at hm; cases hm
      | some rr =>
        obtain ⟨fl, ρ'⟩ := rr
        rw [em, Option.bind_some] at hm
        have w0 : Wd ⟨K, cl, w⟩ ⟨Pp, H, Sp, kp, vs, hvs, fun cls d _ H' => E cls d H'⟩ Pp Sp fz (L2.start N vs) H (ds ++ List.replicate (N.length - ds.length) .gone) := by
          refine ⟨?_, fun a => by have := e2 a; simp only [fz]; omega, fun a h => e3 a (by simpa [fz] using h), fun a h => by simp [fz] at h, e1, .refl _, fun _ _ _ h => h, fun a h => .inl h, fun a h => .inl (by simpa [fz] using h), fun i v h1 h2 => ?_⟩
          · unfold L2.start
            rw [r.length]
            exact repE_start _ r
          · unfold L2.start
            have h2 : vs[i]? = some v := h2
            rw [List.getElem?_append_left (by rw [List.length_map]; exact (List.getElem?_eq_some_iff.mp h2).1), List.getElem?_map, h2]
            rfl
        have fin : ∀ (v : V) (σ' : L2.St) (H' P' : Hp) (S' U : FP) (d1 : D), Wd ⟨K, cl, w⟩ ⟨Pp, H, Sp, kp, vs, hvs, fun cls d _ H' => E cls d H'⟩ P' S' U σ' H' ρ' → Rep ⟨K, cl, w⟩ P' H' d1 v U → some (Sum.inl (d1, maskL kp ρ') : (D × List D) ⊕ (Nat × List Str × List D × List D)) = some r0 → Q v H' := by
          intro v σ' H' P' S' U d1 w' rd hs
          cases hs
          obtain ⟨S2, k1, k2⟩ := mask_rep (kp := kp) (vs := vs) w'.env hlv.symm w'.kp
          exact q v H' P' U S2 ⟨w'.p0, w'.ph, w'.fr, w'.np, fun a h => w'.ns a (by have := k2 a; simp only [fa] at h; omega), fun a => by have := k2 a; have := w'.le a; simp only [fa]; omega, fun a h => w'.out a (by have := k2 a; simp only [fa] at h; omega)⟩ rd k1
        refine ⟨Pp, Sp, _, fl, ρ', w0, em, ?_⟩
        cases fl with
        | nx => exact fun σ' H' P' S' w' _ => fin .non σ' H' P' S' fz .non w' ⟨rfl, rfl⟩ hm
        | rt d1 => exact fun v σ' H' P' S' U w' r => fin v σ' H' P' S' U d1 w' r hm
        | bk => cases hm
        | ct => cases hm
        | ex n fs es =>
          cases hm
          intro us σ' H' P' S' U w' _ re
          obtain ⟨S2, k1, k2⟩ := mask_rep (kp := kp) (vs := vs) w'.env hlv.symm w'.kp
          exact q us H' P' S2 ⟨w'.p0, w'.ph, w'.fr, w'.np, fun a h => w'.ns a (by have := k2 a; omega), fun a => by have := k2 a; have := w'.le a; omega, fun a h => w'.out a (by have := k2 a; omega)⟩ re k1
    · cases hm
end
section
variable {X : Cx} {cl : Nat → Addr} {E : En} {e a b o : Expr} {es : List Expr} {pos p apos : Pos}
def raise0 (n : Nat) : SM := fun ρ => some (.ex n [] [], ρ)
theorem s_raise0 (n : Nat) (hc : X.calm = true) (tk : L2N.Takes X E.xw) (mk : L2N.PMk X e (fun _ H Q => Q (.ref (cl n)) none H)) : PS X (.Raise (some e) none pos) (tS ⟨X.K, cl, X.w⟩ E (raise0 n)) := PS_imp (L2N.ps_raise hc tk mk) fun D σ H ⟨P, S, ρ, fl, ρ', w, hm, q⟩ => by
  cases hm
  exact (q [] σ H P S fz w (.refl _) ⟨rfl, rfl⟩).1 rfl
abbrev XGM := List D → Option ((D × List D) ⊕ (Nat × List Str × List D × List D))
def tXr (c : LC) (E : En) (P : Hp) (σ : L2.St) (Q : VK) : (D × List D) ⊕ (Nat × List Str × List D × List D) → Prop
  | .inl (d, ρ') => ∀ v H' P' S' U, Wd c E P' S' U σ H' ρ' → Ex P P' → Rep c P' H' d v U → Q v H'
  | .inr (n, fs, es, ρ') => ∀ us H' P' S', Wd c E P' S' fz σ H' ρ' → Ex P P' → RepL c P' H' es us fz → XE1 c E.xw n fs us σ H'
def tX (c : LC) (E : En) (g : XGM) : TE := fun σ H Q => ∃ P S ρ r, Wd c E P S fz σ H ρ ∧ g ρ = some r ∧ tXr c E P σ Q r
def exprX (g : XGM) : SM := fun ρ => (g ρ).bind fun r => match r with
  | .inl (_, ρ') => some (.nx, ρ')
  | .inr (n, fs, es, ρ') => some (.ex n fs es, ρ')
theorem s_exprX {g : XGM} (he : PE X e (tX ⟨X.K, cl, X.w⟩ E g)) (hs : swapsWith e none pos.line X.env = pure false := by rfl) : PS X (.Expr e pos) (tS ⟨X.K, cl, X.w⟩ E (exprX g)) := PS_imp (ps_expr he hs) fun D σ H ⟨P, S, ρ, fl, ρ', w, hm, q⟩ => by
  unfold exprX at hm
  cases eg : g ρ with
  | none => rw [eg] at hm; cases hm
  | some r =>
    rw [eg, Option.bind_some] at hm
    refine ⟨P, S, ρ, r, w, eg, ?_⟩
    cases r with
    | inl r => cases hm; exact fun v H' P' S' U w' e rd => q σ H' P' S' (Wd.drop (T := fz) (U := U) (by rw [fz_fa]; exact w')) e
    | inr r => cases hm; exact fun us H' P' S' w' x re => q us σ H' P' S' fz w' x re
def setX (i : Nat) (g : XGM) : SM := fun ρ => (g ρ).bind fun r => match r with
  | .inl (d, ρ') => some (.nx, ρ'.set i d)
  | .inr (n, fs, es, ρ') => some (.ex n fs es, ρ')
theorem s_setX (i : Nat) {x : Str} {pos' : Pos} {g : XGM} (hN : X.N.Nodup) (hi : X.N[i]? = some x) (hx : L2.Loc X.env.scope x) (hk : E.kp[i]? ≠ some true) (he : PE X e (tX ⟨X.K, cl, X.w⟩ E g)) (hs : swapsWith e (some (.Name x pos')) pos.line X.env = pure false := by rfl) (hf : X.fn x = true ∨ X.env.scope.names.lookup x = some .local := by first | exact .inl rfl | exact .inr rfl | assumption) :
    PS X (.Assign [.Name x pos'] e pos) (tS ⟨X.K, cl, X.w⟩ E (setX i g)) := PS_imp (ps_set hN hi hx he hs hf) fun D σ H ⟨P, S, ρ, fl, ρ', w, hm, q⟩ => by
  unfold setX at hm
  cases eg : g ρ with
  | none => rw [eg] at hm; cases hm
  | some r =>
    rw [eg, Option.bind_some] at hm
    refine ⟨P, S, ρ, r, w, eg, ?_⟩
    cases r with
    | inl r =>
      cases hm
      intro v H' P' S' U w' e rd
      obtain ⟨S2, w2⟩ := (show Wd ⟨X.K, cl, X.w⟩ E P' S' (fa fz U) σ H' r.2 by rw [fz_fa]; exact w').store rd i hk
      exact q _ H' P' S2 w2 e
    | inr r => cases hm; exact fun us H' P' S' w' x re => q us σ H' P' S' fz w' x re
def callX (F : FX) (ms : AM) : XGM := fun ρ => (ms ρ).bind fun ds => if frzL ds = true then (F (iceL ds)).bind fun r => match r with
  | .inl (d, _) => some (.inl (d, ρ))
  | .inr (n, fs, es, _) => some (.inr (n, fs, es, ρ))
  else none
theorem spX_frz {c : LC} {E : En} {F : FX} {P H P1 H1 : Hp} {S : FP} {σ : L2.St} {ρ : List D} {ds : List D} {vs : List V} {U1 : FP} {r : (D × List D) ⊕ (Nat × List Str × List D × List D)} {Q : VK} (w : Wd c E P S fz σ H ρ) (g1 : Gr P H P1 H1) (r1 : RepL c P1 H1 ds vs U1) (hz : frzL ds = true) (hf : F (iceL ds) = some r)
    (q : tXr c E P σ Q (match r with | .inl (d, _) => .inl (d, ρ) | .inr (n, fs, es, _) => .inr (n, fs, es, ρ))) : spX c F vs H1 Q (WE E.xw σ) := by
  have hU := RepL.frz0 ds vs U1 hz r1
  subst hU
  refine ⟨P1, fz, iceL ds, r, RepL.ice (.refl P1) ds vs fz (fun a o h1 _ => by simp [fz] at h1) r1, g1.ph, fun _ => Nat.zero_le _, fun a h => by simp [fz] at h, hf, ?_⟩
  have gr : ∀ {P' H' : Hp} {T : FP}, Stp P1 fz H1 P' T H' → Gr P1 H1 P' H' := fun st => ⟨st.p0, fun a o h => st.fr a o rfl h, st.ph, fun a h => by rcases st.np a h with z | z | z <;> first | exact .inl z | (simp [fz] at z; done) | exact .inr z⟩
  cases r with
  | inl r =>
    intro v H' P' U S' st rd rs
    have w2 := (w.grow g1).aside (gr st) (U := U) (fun a => by have := st.le a; simp only [fa] at this; omega) (fun a h => ⟨by
      rcases st.ns a (by simp only [fa]; omega) with z | z
      · simp [fz] at z
      · exact z, st.out a (by simp only [fa]; omega)⟩) (Rep.there _ v U rd)
    rw [fz_fa] at w2
    exact q v H' P' S U w2 (g1.p.trans st.p0) rd
  | inr r =>
    intro us H' P' S' st re rs
    exact q us H' P' S ((w.grow g1).grow (gr st)) (g1.p.trans st.p0) re
theorem f_callX {k : Nat} {f : Addr} {fd : FuncData} {ps : List Str} {F : FX} {x : Str} {ms : AM} (G : FnOk X.prog X.w X.K X.mg X.base (L2N.CX X.prog X.w) k f fd ps (spX ⟨X.K, cl, X.w⟩ F)) (hr : Room k X.A) (hg : Gl X x) (hm : X.mg x = some (.ref f)) (hk : PySem.W.keepIn X.K (.ref f) = true) (hb : Binds X.K fd ps []) (tk : L2N.Takes X E.xw)
    (ha : PA X (e :: es) (tAR ⟨X.K, cl, X.w⟩ E ms)) (hdb : (x == ("__debug__" : Str)) = false := by decide) (he : starEach (e :: es) X.env = (false, eval e X.env) :: starEach es X.env := by rfl) (hpl : (backTo pos (starEach es X.env)).any (·.1) = false := by rfl) :
    PE X (.Call (.Name x p) (e :: es) [] pos) (tX ⟨X.K, cl, X.w⟩ E (callX F ms)) := PE_imp (pe_callS G hr hg hm hk hb (fun σ => L2N.passAt tk σ) ha hdb he hpl) fun σ H Q ⟨P, S, ρ, r, w, h, q⟩ => by
  unfold callX at h
  cases e1 : ms ρ with
  | none => rw [e1] at h; cases h
  | some ds =>
    rw [e1, Option.bind_some] at h
    split at h
    · rename_i hz
      cases e2 : F (iceL ds) with
      | none => rw [e2] at h; cases h
      | some r2 =>
        rw [e2, Option.bind_some] at h
        refine ⟨P, S, fz, ρ, ds, w, e1, fun vs H1 P1 U1 g1 r1 => ?_⟩
        refine spX_frz w g1 r1 hz e2 ?_
        cases r2 <;> (cases h; exact q)
    · cases h
end
end LI

namespace LI
open PySem L2 PyProof.Rows
def kpAt (kp : List Bool) (i : Nat) : List Bool := (kp ++ List.replicate (i + 1 - kp.length) false).set i true
def vsAt (vs : List V) (i : Nat) (a : Addr) : List V := (vs ++ List.replicate (i + 1 - vs.length) V.non).set i (.ref a)
theorem kpAt_ne {kp : List Bool} {i j : Nat} (h : j ≠ i) (q : (kpAt kp i)[j]? = some true) : kp[j]? = some true := by
  unfold kpAt at q
  rw [List.getElem?_set_ne (Ne.symm h)] at q
  rcases Nat.lt_or_ge j kp.length with z | z
  · rwa [List.getElem?_append_left z] at q
  · rw [List.getElem?_append_right z, List.getElem?_replicate] at q
    split at q <;> cases q
theorem vsAt_self {vs : List V} {i : Nat} {a : Addr} : (vsAt vs i a)[i]? = some (.ref a) := by
  unfold vsAt
  rw [List.getElem?_set_self (by rw [List.length_append, List.length_replicate]; omega)]
theorem vsAt_ne {vs : List V} {i j : Nat} {a : Addr} {v : V} (h : j ≠ i) (q : vs[j]? = some v) : (vsAt vs i a)[j]? = some v := by
  unfold vsAt
  have hj := (List.getElem?_eq_some_iff.mp q).1
  rw [List.getElem?_set_ne (Ne.symm h), List.getElem?_append_left hj, q]
def enH (E : En) (P0 : Hp) (i : Nat) (a : Addr) : En := ⟨P0, E.H0, E.S0, kpAt E.kp i, vsAt E.vs i a, fun j h => by
  by_cases q : j = i
  · subst q; exact ⟨_, vsAt_self⟩
  · obtain ⟨v, hv⟩ := E.hv j (kpAt_ne q h)
    exact ⟨v, vsAt_ne q hv⟩, fun _ _ _ _ => False⟩
theorem Wd.wish {c : LC} {E : En} {P : Hp} {S T : FP} {σ : L2.St} {H : Hp} {ρ : List D} (w : Wd c E P S T σ H ρ) (W : WX) : Wd c { E with xw := W } P S T σ H ρ := ⟨w.env, w.le, w.out, w.th, w.ph, w.p0, w.fr, w.np, w.ns, w.kp⟩
theorem Wd.unwish {c : LC} {E : En} {P : Hp} {S T : FP} {σ : L2.St} {H : Hp} {ρ : List D} {W : WX} (w : Wd c { E with xw := W } P S T σ H ρ) : Wd c E P S T σ H ρ := ⟨w.env, w.le, w.out, w.th, w.ph, w.p0, w.fr, w.np, w.ns, w.kp⟩
theorem Wd.toSuite {c : LC} {E : En} {P : Hp} {S T : FP} {σ : L2.St} {H : Hp} {ρ : List D} (w : Wd c E P S T σ H ρ) (i : Nat) (a : Addr) (hi : i < σ.length) : ∃ S', Wd c (enH E P i a) P S' fz (σ.set i (some (.ref a))) H (ρ.set i .gone) := by
  obtain ⟨S', h1, h2⟩ := RepE.set (c := c) (P := P) (H := H) (d := .gone) (v := .ref a) (U := fz) rfl i w.env
  refine ⟨S', h1, fun x => by have := h2 x; have := w.le x; simp only [fz] at *; omega, fun x h => w.out x (by have := h2 x; simp only [fz] at *; omega), fun x h => by simp [fz] at h, w.ph, .refl _, w.fr, fun x h => .inl h, fun x h => w.ns x (by have := h2 x; simp only [fz] at *; omega), fun j v k1 k2 => ?_⟩
  by_cases q : j = i
  · subst q
    have k2 : (vsAt E.vs j a)[j]? = some v := k2
    rw [vsAt_self] at k2
    cases k2
    rw [List.getElem?_set_self hi]
  · have k3 := kpAt_ne q k1
    obtain ⟨u, hu⟩ := E.hv j k3
    have k2 : (vsAt E.vs i a)[j]? = some v := k2
    rw [vsAt_ne q hu] at k2
    cases k2
    rw [List.getElem?_set_ne (Ne.symm q)]
    exact w.kp j _ k3 hu
theorem RepE.unset {c : LC} {P H : Hp} : ∀ {ρ : List D} {σ : L2.St} {S : FP} (i : Nat), RepE c P H ρ σ S → ∃ S', RepE c P H (ρ.set i .gone) (σ.set i none) S' ∧ ∀ a, S' a ≤ S a
  | [], [], S, i, h => ⟨S, h, fun _ => Nat.le_refl _⟩
  | d0 :: ρ, v0 :: σ, S, 0, ⟨T, T2, h1, h2, f⟩ => ⟨fa fz T2, ⟨fz, T2, ⟨rfl, rfl⟩, h2, rfl⟩, fun a => by rw [f]; simp only [fa, fz]; omega⟩
  | d0 :: ρ, v0 :: σ, S, i + 1, ⟨T, T2, h1, h2, f⟩ => by
    obtain ⟨S', k1, k2⟩ := RepE.unset i h2
    exact ⟨fa T S', ⟨T, S', h1, k1, rfl⟩, fun a => by have := k2 a; rw [f]; simp only [fa]; omega⟩
  | [], _ :: _, _, _, h => h.elim
  | _ :: _, [], _, _, h => h.elim
theorem Wd.fromSuite {c : LC} {E : En} {P0 P3 H0 H3 : Hp} {S0 T0 S T : FP} {σ0 σ : L2.St} {ρ0 ρ : List D} {i : Nat} {a : Addr} (w0 : Wd c E P0 S0 T0 σ0 H0 ρ0) (hk : E.kp[i]? ≠ some true) (w : Wd c (enH E P0 i a) P3 S T σ H3 ρ) : ∃ S', Wd c E P3 S' T (σ.set i none) H3 (ρ.set i .gone) := by
  obtain ⟨S', h1, h2⟩ := RepE.unset i w.env
  refine ⟨S', h1, fun x => by have := h2 x; have := w.le x; omega, fun x h => w.out x (by have := h2 x; omega), w.th, w.ph, w0.p0.trans w.p0, w.fr, fun x h => ?_, fun x h => w.ns x (by have := h2 x; omega), fun j v k1 k2 => ?_⟩
  · rcases w.np x h with z | z | z
    · exact w0.np x z
    · exact .inr (.inl z)
    · exact .inr (.inr z)
  · have q : j ≠ i := fun z => hk (z ▸ k1)
    rw [List.getElem?_set_ne (Ne.symm q)]
    refine w.kp j v ?_ (vsAt_ne q k2)
    show (kpAt E.kp i)[j]? = some true
    unfold kpAt
    rw [List.getElem?_set_ne (Ne.symm q), List.getElem?_append_left (List.getElem?_eq_some_iff.mp k1).1, k1]
structure Held (c : LC) (E : En) (i : Nat) (a : Addr) (n : Nat) (fs : List Str) (es : List D) (cls : Value) (d : Option Addr) : Prop where
  kp : E.kp[i]? = some true
  vs : E.vs[i]? = some (.ref a)
  cls : cls = .ref (c.cl n)
  no : fs = [] → d = none
  fld : fs ≠ [] → ∃ dd us, d = some dd ∧ E.P0 dd = some (.xd (fs.zip us)) ∧ ∀ H, RepL c E.P0 H es us fz
def tSu (c : LC) (kp : List Bool) (i : Nat) (mh : Nat → List Str → List D → SM) (ok : Nat → List Str → Bool) : Addr → Value → Option Addr → TS := fun a cls d De σ H => ∃ (E : En) (n : Nat) (fs : List Str) (es : List D), E.kp = kp ∧ ok n fs = true ∧ Held c E i a n fs es cls d ∧ tS c E (mh n fs es) De σ H
def tryM (i : Nat) (sub : Nat → List Str → Bool) (mb : SM) (mh : Nat → List Str → List D → SM) : SM := fun ρ => (mb ρ).bind fun r => match r.1 with
  | .ex n fs es => if sub n fs = true ∧ i < r.2.length then (mh n fs es (r.2.set i .gone)).bind fun r2 => match r2.1 with
    | .ex _ _ _ => none
    | f => some (f, r2.2.set i .gone)
    else none
  | _ => some r
section
variable {X : Cx} {cl : Nat → Addr} {E : En} {x nm : Str} {cx : Value} {body suite : List Stmt} {b₀ : Stmt} {np pos pos' : Pos} {mb : SM} {mh : Nat → List Str → List D → SM} {sub : Nat → List Str → Bool}
theorem su_post {c : LC} {E : En} {P0 H0 Pq : Hp} {S0 T0 : FP} {σ0 : L2.St} {ρ0 : List D} {i : Nat} {a : Addr} {De : Ends} {fl : Fl} {ρ' : List LI.D} (w0 : Wd c E P0 S0 T0 σ0 H0 ρ0) (hk : E.kp[i]? ≠ some true) (hx : ∀ n fs es, fl ≠ .ex n fs es) (hP : Ex Pq P0) (q : SPost c E Pq De fl (ρ'.set i .gone)) :
    SPost c (enH E P0 i a) P0 { nx := fun σ' H' => De.nx (σ'.set i none) H', rt := De.rt, bk := fun σ' H' => De.bk (σ'.set i none) H', ct := fun σ' H' => De.ct (σ'.set i none) H' } fl ρ' := by
  cases fl with
  | nx => exact fun σ' H' P' S' w e => by obtain ⟨S2, w2⟩ := w0.fromSuite hk w; exact q _ H' P' S2 w2 (hP.trans e)
  | rt d => exact fun v σ' H' P' S' U w r => by obtain ⟨S2, w2⟩ := w0.fromSuite hk w; exact q v _ H' P' S2 U w2 r
  | bk => exact fun σ' H' P' S' w e => by obtain ⟨S2, w2⟩ := w0.fromSuite hk w; exact q _ H' P' S2 w2 (hP.trans e)
  | ct => exact fun σ' H' P' S' w e => by obtain ⟨S2, w2⟩ := w0.fromSuite hk w; exact q _ H' P' S2 w2 (hP.trans e)
  | ex n fs es => exact absurd rfl (hx n fs es)
theorem s_tryAs (i : Nat) (kpH : List Bool) (hkH : kpAt E.kp i = kpH) (hs : X.stack = X.env :: X.outer) (hf : X.env.frame = some X.env.locals) (hN : X.N.Nodup) (hi : X.N[i]? = some nm) (hln : X.env.kindOf nm = some .local) (hc : Names X x cx) (hk : E.kp[i]? ≠ some true)
    (hsub : ∀ n fs, sub n fs = true → PySem.W.exmOne X.K (.ref (cl n)) cx = some true)
    (hb : ∀ (W : WX) (pn : List (Addr × Obj)) (xe : Value → Shared → Prop), L2N.Takes (X.tr pn xe) W → PassesOwn (model X.prog X.w) X.A X.env xe → PSs (X.tr pn xe) body (tS ⟨X.K, cl, X.w⟩ { E with xw := W } mb))
    (hsu : ∀ (a : Addr) (oe : Obj) (cls : Value) (d : Option Addr) (pn : List (Addr × Obj)) (n : Nat) (fs : List Str) (es : List D) (E' : En), L2N.Zn cls d oe → (∃ vs, oe.data = .fields vs) → E'.kp = kpH → sub n fs = true → Held ⟨X.K, cl, X.w⟩ E' i a n fs es cls d → PSs (X.suite a ((a, oe) :: pn)) (b₀ :: suite) (tS ⟨X.K, cl, X.w⟩ E' (mh n fs es))) :
    PS X (.Try body [.ExceptHandler (some (.Name x np)) (some nm) (b₀ :: suite) pos'] [] [] pos) (tS ⟨X.K, cl, X.w⟩ E (tryM i sub mb mh)) := by
  refine PS_imp (L2N.ps_try_as (i := i) (c := cx) (Wout := fun _ _ _ _ => False) (tb := fun W => tS ⟨X.K, cl, X.w⟩ { E with xw := W } mb) (ts := tSu ⟨X.K, cl, X.w⟩ kpH i mh sub) hs hf hN hi hln hc takesN0 hb (fun a oe cls d pn hz hd => ⟨fun pins s σ H D I h => ?_⟩)) fun D σ H ⟨P, S, ρ, fl, ρ', w, hm, q⟩ => ?_
  · obtain ⟨E', n, fs, es, h1, h2, h3, h4⟩ := h
    exact (hsu a oe cls d pn n fs es E' hz hd h1 h2 h3).run pins s σ H D I h4
  · unfold tryM at hm
    cases eb : mb ρ with
    | none => rw [eb] at hm; cases hm
    | some r =>
      obtain ⟨f1, ρ1⟩ := r
      rw [eb, Option.bind_some] at hm
      refine ⟨P, S, ρ, f1, ρ1, w.wish _, eb, ?_⟩
      cases f1 with
      | nx => cases hm; exact fun σ' H' P' S' w' e => q σ' H' P' S' w'.unwish e
      | rt d => cases hm; exact fun v σ' H' P' S' U w' r => q v σ' H' P' S' U w'.unwish r
      | bk => cases hm; exact fun σ' H' P' S' w' e => q σ' H' P' S' w'.unwish e
      | ct => cases hm; exact fun σ' H' P' S' w' e => q σ' H' P' S' w'.unwish e
      | ex n fs es =>
        dsimp only at hm
        split at hm
        · rename_i hsu2
          obtain ⟨hsb, hil⟩ := hsu2
          cases eh : mh n fs es (ρ1.set i .gone) with
          | none => rw [eh] at hm; cases hm
          | some r2 =>
            obtain ⟨f2, ρ2⟩ := r2
            rw [eh, Option.bind_some] at hm
            have hnx : ∀ n fs es, f2 ≠ .ex n fs es := fun n fs es z => by subst z; cases hm
            have hfl : (f2, ρ2.set i .gone) = (fl, ρ') := by
              cases f2 <;> first | (cases hm; rfl) | (exact absurd rfl (hnx _ _ _))
            obtain ⟨hfl1, hfl2⟩ := Prod.mk.inj hfl
            subst hfl1 hfl2
            intro us σ' H' P' S' U w' ex re
            have w1 := w'.unwish
            have hlen : i < σ'.length := by rw [← RepE.len _ _ _ w1.env]; exact hil
            have main : ∀ (P2 H2 : Hp) (d : Option Addr), Wd ⟨X.K, cl, X.w⟩ E P2 S' U σ' H2 ρ1 → Ex P P2 → (fs = [] → d = none) → (fs ≠ [] → ∃ dd us, d = some dd ∧ P2 dd = some (.xd (fs.zip us)) ∧ ∀ H, RepL ⟨X.K, cl, X.w⟩ P2 H es us fz) →
                wAs X.K cx i (tSu ⟨X.K, cl, X.w⟩ kpH i mh sub) (fun _ _ _ _ => False) D (.ref (cl n)) d σ' H2 := by
              intro P2 H2 d w2 e2 h1 h2
              refine ⟨true, hsub n fs hsb, fun _ a ha => ?_, fun z => by cases z⟩
              obtain ⟨S3, w3⟩ := w2.toSuite i a hlen
              refine ⟨enH E P2 i a, n, fs, es, hkH, hsb, ⟨?_, vsAt_self, rfl, h1, h2⟩, P2, S3, _, f2, ρ2, w3, eh, ?_⟩
              · show (kpAt E.kp i)[i]? = some true
                unfold kpAt
                rw [List.getElem?_set_self (by rw [List.length_append, List.length_replicate]; omega)]
              · exact su_post (Pq := P) w2 hk hnx e2 q
            refine ⟨fun hfs => main P' H' none w1 ex (fun _ => rfl) (fun z => absurd hfs z), fun hfs dd hdd => ?_⟩
            have hPd := none_of w1.ph hdd
            have eP : Ex P' (upd P' dd (.xd (fs.zip us))) := fun b o z => by rw [upd_ne (ne_of_none z hPd)]; exact z
            have eH : Ex H' (upd H' dd (.xd (fs.zip us))) := fun b o z => by rw [upd_ne (ne_of_none z hdd)]; exact z
            have g : Gr P' H' (upd P' dd (.xd (fs.zip us))) (upd H' dd (.xd (fs.zip us))) := ⟨eP, eH, fun b o z => by
              by_cases hb : b = dd
              · subst hb; rw [upd_same] at z ⊢; exact z
              · rw [upd_ne hb] at z ⊢; exact w1.ph b o z, fun b z => by
              by_cases hb : b = dd
              · subst hb; exact .inr hdd
              · rw [upd_ne hb] at z; exact .inl z⟩
            exact main _ _ (some dd) (w1.grow g) (ex.trans eP) (fun z => absurd z hfs) (fun _ => ⟨dd, us, rfl, upd_same, fun H => RepL.mono eP _ _ fz (fun b o h1 _ => by simp [fz] at h1) re⟩)
        · cases hm
end
end LI

namespace LI
open PySem L2 PyProof.Rows
structure XcC (K : PySem.W.Frag) (C : Addr) : Prop where
  hcl : (PySem.W.clsIn K C).isSome = true
  hga : PySem.W.findIn K (.ref C) "__getattribute__" = some (some (.builtin "BaseException.__getattribute__"))
  hgt : PySem.W.findIn K (.ref C) "__getattr__" = some none
  hsub : PySem.W.subIn K (.ref C) (.type "BaseException") = some true
  ha : PySem.W.findIn K (.ref C) "__class__" = some (some (.builtin "object.__class__"))
  hn : PySem.W.specialIn K (.builtin "object.__class__") "__get__" = some (some (.builtin "getset_descriptor.__get__"))
  htk : PySem.W.takesIn K (.builtin "object.__class__") = some true
  hm : PySem.W.mroIn K C (.type "object") = some true
  hd : PySem.W.hasDictIn K C = true
def dOk (d : Option Addr) (H : Hp) : Prop := d = none ∨ ∃ dd fs, d = some dd ∧ H dd = some (.xd fs)
section
variable {X : Cx} {a C : Addr} {oe : Obj} {d : Option Addr} {pn : List (Addr × Obj)}
theorem inst_of {pins : List (Addr × Obj)} {σ : L2.St} {H : Hp} {s : Shared} (I : Inv (X.suite a ((a, oe) :: pn)) pins σ H s) (hz : L2N.Zn (.ref C) d oe) (hf : ∃ vs, oe.data = .fields vs) (hd : dOk d H) : ∃ od, PySem.W.InstAt s.heap a oe C od := by
  obtain ⟨hget, _⟩ := I.pin (a, oe) (List.mem_append.mpr (.inl List.mem_cons_self))
  obtain ⟨vs, hv⟩ := hf
  have hno : PySem.W.notCls oe = true := by unfold PySem.W.notCls; rw [hv]
  rcases hd with z | ⟨dd, fs, z, hx⟩
  · exact ⟨none, hget, hz.1, hno, by rw [hz.2.1, z]; trivial⟩
  · obtain ⟨od, ho⟩ := objOk_get (I.hok dd _ hx)
    exact ⟨some od, hget, hz.1, hno, by rw [hz.2.1, z]; exact ho⟩
def rIsX (K : PySem.W.Frag) (D a : Addr) (d : Option Addr) : List V → Hp → VK → Prop := fun xs H Q => ∃ (c : V) (u : Value) (b : Bool), xs = [.ref a, c] ∧ ClsV c u ∧ dOk d H ∧ PySem.W.kitOne K (.ref D) u = some b ∧ Q (.bl b) H
def rIsXT (K : PySem.W.Frag) (D a : Addr) (d : Option Addr) : List V → Hp → VK → Prop := fun xs H Q => ∃ (tp : Addr) (cs : List V) (us : List Value) (b : Bool), xs = [.ref a, .ref tp] ∧ H tp = some (.tup cs) ∧ Paired ClsV cs us ∧ dOk d H ∧ PySem.W.kitAny K (.ref D) us = some b ∧ Q (.bl b) H
theorem call_isX (T : XcC X.K C) (hz : L2N.Zn (.ref C) d oe) (hf : ∃ vs, oe.data = .fields vs) : CallR (X.suite a ((a, oe) :: pn)) (.builtin "isinstance") (rIsX X.K C a d) := by
  intro pins s σ H xs us Q I r h
  obtain ⟨c, u, b, rfl, k, hd, e, q⟩ := h
  obtain ⟨u1, u2, rfl, r1, r2⟩ := vals2 r
  obtain rfl : u1 = Value.ref a := r1
  have e2 := k.eq r2
  subst e2
  obtain ⟨od, J⟩ := inst_of I hz hf hd
  exact PySem.W.kia_one (PySem.W.kitx_exc T.hcl T.hga T.hgt T.hsub T.ha T.hn T.htk T.hm) I.kIn J e (fun z => nomatch z) fun tk => ⟨.bl b, H, I.kept (t' := tk) fun _ _ z => z, rfl, q⟩
theorem call_isXT (T : XcC X.K C) (hz : L2N.Zn (.ref C) d oe) (hf : ∃ vs, oe.data = .fields vs) : CallR (X.suite a ((a, oe) :: pn)) (.builtin "isinstance") (rIsXT X.K C a d) := by
  intro pins s σ H xs us Q I r h
  obtain ⟨tp, cs, ws, b, rfl, hT, k, hd, e, q⟩ := h
  obtain ⟨u1, u2, rfl, r1, r2⟩ := vals2 r
  obtain rfl : u1 = Value.ref a := r1
  cases (show u2 = Value.ref tp from r2)
  obtain ⟨od, J⟩ := inst_of I hz hf hd
  obtain ⟨_, its, rv, o, h1, h2, n, h3⟩ := (show ObjOk X.prog X.w H s.heap tp (.tup cs) from I.hok tp _ hT)
  have e3 := ClsV.all k rv
  subst e3
  obtain ⟨oc, od', dt, sl⟩ := o
  simp only at h2 h3
  subst h2 h3
  exact PySem.W.kia_tup (PySem.W.kitx_exc T.hcl T.hga T.hgt T.hsub T.ha T.hn T.htk T.hm) I.kIn J h1 e (fun z => nomatch z) fun tk => ⟨.bl b, H, I.kept (t' := tk) fun _ _ z => z, rfl, q⟩
end
section
variable {X : Cx} {cl : Nat → Addr} {E : En} {a : Addr} {oe : Obj} {d : Option Addr} {cls : Value} {pn : List (Addr × Obj)} {i n : Nat} {fs : List Str} {es : List D} {x : Str} {p p1 p2 pos : Pos}
theorem Held.dok {c : LC} {P H : Hp} (h : Held c E i a n fs es cls d) (e : Ex E.P0 P) (e2 : Ex P H) : dOk d H := by
  cases hf : fs with
  | nil => exact .inl (h.no hf)
  | cons f r =>
    obtain ⟨dd, us, h1, h2, _⟩ := h.fld (by rw [hf]; simp)
    exact .inr ⟨dd, _, h1, e2 _ _ (e _ _ h2)⟩
theorem Held.at {c : LC} {P H : Hp} {S T : FP} {σ : L2.St} {ρ : List D} (h : Held c E i a n fs es cls d) (w : Wd c E P S T σ H ρ) : σ[i]? = some (some (.ref a)) := w.kp i _ h.kp h.vs
theorem f_isX (b : Bool) (hd : Held ⟨X.K, cl, X.w⟩ E i a n fs es cls d) (hz : L2N.Zn cls d oe) (hf : ∃ vs, oe.data = .fields vs) (T : XcC X.K (cl n)) {c : V} {u : Value} {ce : Expr} (k : ClsV c u) (hk : PySem.W.kitOne X.K (.ref (cl n)) u = some b) (hc : PE (X.suite a ((a, oe) :: pn)) ce (tC c))
    (hm : X.mg "isinstance" = none) (hN : X.N[i]? = some x := by rfl) (hv : Vis X.env.scope x := by first | exact Or.inl rfl | exact Or.inr (Or.inl rfl) | exact Or.inr (Or.inr rfl)) (hdb : (x == ("__debug__" : Str)) = false := by decide) (hcd : (x == ("__classdict__" : Str)) = false := by decide) (hg : Gl X "isinstance" := by rfl)
    (hs1 : starEach [.Name x p1, ce] X.env = (false, eval (.Name x p1) X.env) :: starEach [ce] X.env := by rfl) (hs2 : starEach [ce] X.env = (false, eval ce X.env) :: starEach [] X.env := by rfl) (hpl : (backTo pos (starEach [ce] X.env)).any (·.1) = false := by rfl) :
    PE (X.suite a ((a, oe) :: pn)) (.Call (.Name "isinstance" p) [.Name x p1, ce] [] pos) (tF ⟨X.K, cl, X.w⟩ E (kM (.bl b))) := by
  have hc' := hd.cls
  subst hc'
  refine PE_imp (pe_callB (call_isX T hz hf) hg hm (by decide +kernel) (pa_cons (pe_var (i := i) hN hv hdb hcd) (pa_cons hc pa_nil hs2) hs1) (by decide) (by decide) hs1 hpl) fun σ H Q ⟨P, S, T', ρ, d1, w, h, q⟩ => ?_
  cases h
  exact ⟨.ref a, hd.at w, c, u, b, rfl, k, hd.dok w.p0 w.ph, hk, q.flat w.ph ⟨rfl, rfl⟩⟩
theorem f_isXT (b : Bool) (hd : Held ⟨X.K, cl, X.w⟩ E i a n fs es cls d) (hz : L2N.Zn cls d oe) (hf : ∃ vs, oe.data = .fields vs) (T : XcC X.K (cl n)) {cs : List V} {us : List Value} {ce : List Expr} {x1} {q1 : Pos} {t : TA} (ht : ∀ σ H Q, Q cs H → t σ H Q) (k : Paired ClsV cs us) (hl : cs.length ≤ LIM) (hk : PySem.W.kitAny X.K (.ref (cl n)) us = some b) (hc : PA (X.suite a ((a, oe) :: pn)) ce t)
    (hm : X.mg "isinstance" = none) (hN : X.N[i]? = some x := by rfl) (hv : Vis X.env.scope x := by first | exact Or.inl rfl | exact Or.inr (Or.inl rfl) | exact Or.inr (Or.inr rfl)) (hdb : (x == ("__debug__" : Str)) = false := by decide) (hcd : (x == ("__classdict__" : Str)) = false := by decide) (hg : Gl X "isinstance" := by rfl)
    (hs1 : starEach [.Name x p1, .Tuple ce x1 q1] X.env = (false, eval (.Name x p1) X.env) :: starEach [.Tuple ce x1 q1] X.env := by rfl) (hs2 : starEach [.Tuple ce x1 q1] X.env = (false, eval (.Tuple ce x1 q1) X.env) :: starEach [] X.env := by rfl) (hpl : (backTo pos (starEach [.Tuple ce x1 q1] X.env)).any (·.1) = false := by rfl) :
    PE (X.suite a ((a, oe) :: pn)) (.Call (.Name "isinstance" p) [.Name x p1, .Tuple ce x1 q1] [] pos) (tF ⟨X.K, cl, X.w⟩ E (kM (.bl b))) := by
  have hc' := hd.cls
  subst hc'
  refine PE_imp (pe_callB (call_isXT T hz hf) hg hm (by decide +kernel) (pa_cons (pe_var (i := i) hN hv hdb hcd) (pa_cons (pe_tup hc) pa_nil hs2) hs1) (by decide) (by decide) hs1 hpl) fun σ H Q ⟨P, S, T', ρ, d1, w, h, q⟩ => ?_
  cases h
  refine ⟨.ref a, hd.at w, ht σ H _ ⟨lim_le hl, fun tp htp => ?_⟩⟩
  have eH : Ex H (upd H tp (.tup cs)) := fun b o z => by rw [upd_ne (ne_of_none z htp)]; exact z
  have g : Gr P H P (upd H tp (.tup cs)) := ⟨.refl P, eH, w.ph.trans eH, fun _ z => .inl z⟩
  exact ⟨tp, cs, us, b, rfl, upd_same, k, hd.dok w.p0 (w.ph.trans eH), hk, (q.grow g).flat g.ph ⟨rfl, rfl⟩⟩
def fldX (f : Str) : List Str → List D → Option D
  | g :: gs, y :: ys => if f = g then some y else fldX f gs ys
  | _, _ => none
theorem fldX_get {c : LC} {P H : Hp} {f : Str} : ∀ {fs : List Str} {es : List D} {us : List V} {y : D}, RepL c P H es us fz → fldX f fs es = some y → ∃ v, (fs.zip us).lookup f = some v ∧ Rep c P H y v fz
  | [], _, _, _, _, h => by cases h
  | _ :: _, [], _, _, _, h => by cases h
  | g :: gs, y0 :: ys, us, y, ⟨u, us', T, U, e, r, rs, hf⟩, h => by
    subst e
    have hT : T = fz := by funext a; have := congrFun hf a; simp only [fa, fz] at *; omega
    have hU : U = fz := by funext a; have := congrFun hf a; simp only [fa, fz] at *; omega
    subst hT hU
    unfold fldX at h
    by_cases q : f = g
    · rw [if_pos q] at h; cases h
      refine ⟨u, ?_, r⟩
      rw [List.zip_cons_cons, List.lookup_cons, q]; simp
    · rw [if_neg q] at h
      obtain ⟨v, h1, h2⟩ := fldX_get rs h
      refine ⟨v, ?_, h2⟩
      rw [List.zip_cons_cons, List.lookup_cons]
      have : (f == g) = false := by simp [q]
      rw [this]; exact h1
def xfldM (f : Str) (fs : List Str) (es : List D) : RM := fun _ => fldX f fs es
theorem f_fldX {f : Str} (hd : Held ⟨X.K, cl, X.w⟩ E i a n fs es cls d) (hz : L2N.Zn cls d oe) (hf : ∃ vs, oe.data = .fields vs) (T : XcC X.K (cl n)) (hno : PySem.W.findIn X.K (.ref (cl n)) f = some none)
    (hN : X.N[i]? = some x := by rfl) (hv : Vis X.env.scope x := by first | exact Or.inl rfl | exact Or.inr (Or.inl rfl) | exact Or.inr (Or.inr rfl)) (hdb : (x == ("__debug__" : Str)) = false := by decide) (hcd : (x == ("__classdict__" : Str)) = false := by decide)
    (hb : attributeBase (.Name x p1) f X.env (eval (.Name x p1) X.env) = eval (.Name x p1) X.env := by rfl) :
    PE (X.suite a ((a, oe) :: pn)) (.Attribute (.Name x p1) f pos) (tF ⟨X.K, cl, X.w⟩ E (xfldM f fs es)) := by
  refine PE_imp (pe_xf (C := cl n) (d := d) (cls := cls) ⟨T.hga, T.hgt, T.hsub, T.hd⟩ hno hz.zc hf (pe_var (i := i) hN hv hdb hcd) hb) fun σ H Q ⟨P, S, T', ρ, d1, w, h, q⟩ => ?_
  have hy : fldX f fs es = some d1 := h
  have hne : fs ≠ [] := fun z => by subst z; cases hy
  obtain ⟨dd, us, h1, h2, h3⟩ := hd.fld hne
  obtain ⟨v, h4, h5⟩ := fldX_get (h3 H) hy
  exact ⟨.ref a, hd.at w, rfl, hd.cls, dd, _, v, h1, w.ph _ _ (w.p0 _ _ h2), h4, q.flat w.ph (Rep.mono w.p0 d1 v fz (fun b o z _ => by simp [fz] at z) h5)⟩
end
end LI

namespace LI
open PySem L2 PyProof.Rows
section
variable {X : Cx} {e : Expr} {es : List Expr} {ta : TA} {x : Str} {C0 : Addr} {mc : Value} {p1 p2 pos : Pos}
theorem pe_baseinit {pl : Sem Bool} (hg : Gl X x) (hm : X.mg x = some (.ref C0)) (rd : PySem.W.readsIn X.K C0 mc = true) (ga : PySem.W.specialIn X.K (.ref C0) "__getattribute__" = some (some (.builtin "type.__getattribute__")))
    (at_ : PySem.W.findCls X.K (.ref C0) mc "__init__" = some (.val (.builtin "ValueError.__init__"))) (ha : PA X (e :: es) ta) (hdb : (x == ("__debug__" : Str)) = false := by decide)
    (hc : eval (.Call (.Attribute (.Name x p1) "__init__" p2) (e :: es) [] pos) X.env = (do
      let ov ← eval (.Name x p1) X.env
      standAt p2.atName
      let (f, first) ← holding [ov] (getMethod ov "__init__" pl)
      callWith pos f first (backTo pos (starEach (e :: es) X.env)) (backToKw pos (keywordEach [] X.env))) := by rfl)
    (he : starEach (e :: es) X.env = (false, eval e X.env) :: starEach es X.env := by rfl) (hpl : (backTo pos (starEach es X.env)).any (·.1) = false := by rfl) :
    PE X (.Call (.Attribute (.Name x p1) "__init__" p2) (e :: es) [] pos) (tVeI X.K ta) := by
  refine ⟨fun pins s σ H Q I h => ?_⟩
  refine PySem.W.methodCall_KW (ld_glob I hg hm ?_ hdb) hc
  refine PySem.W.method_cls I.kIn ga (PySem.W.cls_value I.kIn rd at_ (by decide +kernel) ?_)
  show wpAny _ _ (callWith pos (Value.builtin "ValueError.__init__") [] (backTo pos (starEach (e :: es) X.env)) []) _ _ _
  refine callWith_method1 (thn (ha.run pos pins _ σ H _ (I.tok _) h) fun us s1 hh => ?_) he hpl
  obtain ⟨vs, H1, I1, r1, a, C, ws, ev, hl, T, ea, q⟩ := hh
  subst ev
  cases r1 with
  | @cons _ u0 _ ur ra rw' =>
    obtain rfl : u0 = Value.ref a := ra
    exact oinit_ok T I1 ea (by rw [← Paired.length rw', sizeLine_eq]; omega) fun s' J => ⟨.non, H1, J, rfl, q⟩
end
def spInit (C : Addr) (f : Str) : Sp := fun vs H Q _ => ∃ a v, vs = [.ref a, v] ∧ H a = some (exo a C none) ∧ ∀ d, H d = none → d ≠ a → Q .non (upd (upd H d (exd d [(f, v)])) a (exo a C (some d)))
def tInitS (K : PySem.W.Frag) (f m : Str) : TS := tSeq (tDrop (tVeI K (tCons (tVar 0) (tCons (tC (.str m)) tNil)))) (tOst K f (tVar 0) (tVar 1))
theorem init_run {K : PySem.W.Frag} {C : Addr} {f m y : Str} {vs : List V} {H : Hp} {Q : VK} {E : XK} (T : OexC K C) (hno : PySem.W.findIn K (.ref C) f = some none) (h : spInit C f vs H Q E) : tInitS K f m { nx := fun _ H' => Q .non H', rt := Q } (L2.start ["self", y] vs) H := by
  obtain ⟨a, v, rfl, ha, q⟩ := h
  refine ⟨.ref a, rfl, a, C, [.str m], rfl, by simp, T, ha, ?_⟩
  exact ⟨v, rfl, .ref a, rfl, a, C, rfl, T, hno, .inl ⟨ha, fun dx h1 h2 => q dx h1 h2⟩⟩
section
variable {Y : Cx} {ar : Expr} {ars : List Expr} {wa : TA} {gn : Str} {q0 q1 : Pos} {Cc fJ : Addr} {jj : Nat} {fe : FuncData} {pz : List Str} {sq : Sp} {CY : CXT}
theorem pmk_oexN (T : OexC Y.K Cc) (iC : PySem.W.findIn Y.K (.ref Cc) "__init__" = some (some (.ref fJ))) (tI : PySem.W.typeIn Y.K (.ref fJ) = some (.type "function"))
    (G : FnOk Y.prog Y.w Y.K Y.mg Y.base CY jj fJ fe pz sq) (rm : Room (jj + 1) Y.A) (bi : Binds Y.K fe pz []) (px : Passes CY Y (fun _ _ _ => False)) (gl : Gl Y gn) (gm : Y.mg gn = some (.ref Cc)) (pa : PA Y (ar :: ars) wa)
    (nd : (gn == ("__debug__" : Str)) = false := by decide) (st : starEach (ar :: ars) Y.env = (false, eval ar Y.env) :: starEach ars Y.env := by rfl) (np : (backTo q1 (starEach ars Y.env)).any (·.1) = false := by rfl) :
    L2N.PMk Y (.Call (.Name gn q0) (ar :: ars) [] q1) (tMkO Cc sq [] wa) := by
  intro pins s0 τ K0 R J h
  obtain ⟨_, _, _, _, bm, _, _, _, _, _, _, _, _, _, _, hC, hbm⟩ := T.cls
  refine wpAny_Call_Name_kw (ld_glob J gl gm ?_ nd)
  refine PySem.W.callWith_K (h₀ := Y.base) J.ok.mod.kin T.kC (thn (pa.run q1 pins s0 τ K0 _ J h) fun as sA hA => ?_) st np
  obtain ⟨vs, K1, J1, rA, _, k1⟩ := hA
  refine ⟨J1.kIn, ?_⟩
  show wpAny _ _ (call (.ref Cc) as) _ _ _
  obtain ⟨hp, gg, dr, tk, oo⟩ := sA
  let x := hp.objs.size
  have le1 : x ≤ x + 1 := Nat.le_succ _
  have no1 : K1 (x + 1) = none := J1.hok.fresh le1
  have goal1 := k1 (x + 1) no1
  let hh := (hp.push (PySem.W.kdv_tup as)).push (PySem.HandSPX.excO Cc x)
  have keep : ∀ b o, hp.get? b = some o → hh.get? b = some o := fun b o z => Heap.get?_push_of_some _ (Heap.get?_push_of_some _ z)
  have got : hh.get? (x + 1) = some (PySem.HandSPX.excO Cc x) := by
    show ((hp.push (PySem.W.kdv_tup as)).push (PySem.HandSPX.excO Cc hp.objs.size)).get? (hp.objs.size + 1) = _
    heap_get
  have J2 : Inv Y pins τ (upd K1 (x + 1) (exo (x + 1) Cc none)) ⟨hh, gg, dr, tk, oo⟩ := J1.laid (t' := tk) (a := x + 1) (o := exo (x + 1) Cc none) (h' := hh) keep le1 (exo_ok got)
  have rB : Vals (V.ref (x + 1) :: (vs ++ [])) (Value.ref (x + 1) :: (as ++ [])) := .cons rfl (rA.append .nil)
  have ln : (Value.ref (x + 1) :: as ++ []).length = pz.length := by
    have z := rB.length
    rw [G.len _ _ _ _ goal1] at z
    exact z.symm
  have few : as.length ≤ sizeLine := by rw [← Paired.length rA, sizeLine_eq]; omega
  have bz : BindsTo ⟨hh, gg, dr, tk, oo⟩ fe ⟨Value.ref (x + 1) :: as, []⟩ (pz.zip (Value.ref (x + 1) :: (as ++ []))) := bi ⟨hh, gg, dr, tk, oo⟩ (Value.ref (x + 1) :: as) J2.kIn ln
  have inner := G.run _ Y.stack _ _ ⟨Value.ref (x + 1) :: as, []⟩ (Value.ref (x + 1) :: (as ++ [])) _ _ (fun _ _ _ => False) (rm.make Cc as []) (J2.env0.make Cc as []) bz rB goal1
  refine wpAny_call (PySem.HandSPX.call_own F.excBase_ValueError (fun Z => PySem.HandSPX.refsVE_contains Z bm hbm) (J1.kIn _ _ hC) (PySem.W.looks_findIn J1.kIn iC) (fun self => PySem.W.bind_fn J1.kIn self tI) few (codeAny_mono inner fun r s' end1 => ?_))
  rcases r with er | fl
  · exact px pins τ _ _ er s' J2 end1
  · cases fl with
    | ret u =>
      obtain ⟨v, K2, oo2, bare2, un2, hok2, rv, ev, d, fs, ea, ed, dn, k2⟩ := end1
      subst ev
      obtain ⟨h2, g2, d2, t2, os'⟩ := s'
      refine ⟨rv, ?_⟩
      obtain ⟨t0, G', J', kG, ge, hoe, na⟩ := mk_end0 (d2 := d2) (t2 := t2) J1 le1 keep un2 hok2 oo2 bare2 ea ed dn
      exact ⟨x + 1, _, _, ⟨G', g2, d2, t2, os'⟩, _, .ref Cc, some d, rfl, J', kG, ge, hoe, ⟨rfl, rfl, fun ws z => by cases z; rfl⟩, rfl, rfl, na, rfl, bare2, raises_own T.exC T.tyC, k2⟩
    | next => exact end1.elim
    | brk => exact end1.elim
    | cont => exact end1.elim
end
section
variable {X : Cx} {cl : Nat → Addr} {E : En} {e : Expr} {x f : Str} {p pos pos2 : Pos} {m : RM}
def raise1 (n : Nat) (f : Str) (m : RM) : SM := fun ρ => (m ρ).bind fun d => if frz d = true then some (.ex n [f] [d], ρ) else none
theorem s_raise1 (n : Nat) {CX : CXT} {k : Nat} {fI : Addr} {fd : FuncData} {ps : List Str} (hc : X.calm = true) (tk : L2N.Takes X E.xw) (T : OexC X.K (cl n)) (iC : PySem.W.findIn X.K (.ref (cl n)) "__init__" = some (some (.ref fI))) (tI : PySem.W.typeIn X.K (.ref fI) = some (.type "function"))
    (F1 : FnOk X.prog X.w X.K X.mg X.base CX k fI fd ps (spInit (cl n) f)) (hr : Room (k + 1) X.A) (hb : Binds X.K fd ps []) (hx : Passes CX X (fun _ _ _ => False)) (hg : Gl X x) (hm : X.mg x = some (.ref (cl n))) (he : PE X e (tR ⟨X.K, cl, X.w⟩ E m))
    (hdb : (x == ("__debug__" : Str)) = false := by decide) (hs : starEach [e] X.env = (false, eval e X.env) :: starEach [] X.env := by rfl) (hpl : (backTo pos (starEach [] X.env)).any (·.1) = false := by rfl) :
    PS X (.Raise (some (.Call (.Name x p) [e] [] pos)) none pos2) (tS ⟨X.K, cl, X.w⟩ E (raise1 n f m)) := PS_imp (L2N.ps_raise hc tk (pmk_oexN T iC tI F1 hr hb hx hg hm (pa_cons he pa_nil hs) hdb hs hpl)) fun D σ H ⟨P, S, ρ, fl, ρ', w, hm2, q⟩ => by
  unfold raise1 at hm2
  cases eg : m ρ with
  | none => rw [eg] at hm2; cases hm2
  | some d =>
    rw [eg, Option.bind_some] at hm2
    split at hm2
    · rename_i hz
      cases hm2
      refine ⟨P, S, fz, ρ, d, w, eg, fun v H1 P1 U g r => ?_⟩
      have hU := Rep.frz0 d v U hz r
      subst hU
      refine ⟨by simp, fun a ha => ?_⟩
      refine ⟨a, v, rfl, upd_same, fun dd hdd hda => ⟨rfl, dd, [(f, v)], upd_same, ?_, ?_, ?_⟩⟩
      · rw [upd_ne hda, upd_same]
      · rw [upd_ne hda] at hdd; exact hdd
      · have hdd1 : H1 dd = none := by rw [upd_ne hda] at hdd; exact hdd
        have e1 : upd (del (upd (upd (upd H1 a (exo a (cl n) none)) dd (exd dd [(f, v)])) a (exo a (cl n) (some dd))) a) dd (.xd [(f, v)]) = upd H1 dd (.xd [(f, v)]) := by
          funext b
          by_cases hb1 : b = dd
          · rw [hb1, upd_same, upd_same]
          · rw [upd_ne hb1, upd_ne hb1]
            by_cases hb2 : b = a
            · rw [hb2, del_same, ha]
            · rw [del_ne hb2, upd_ne hb2, upd_ne hb1, upd_ne hb2]
        rw [e1]
        exact (q [v] σ H1 P1 S fz (w.grow g) g.p ⟨v, [], fz, fz, rfl, r, ⟨rfl, rfl⟩, (fa_fz fz).symm⟩).2 (by simp) dd hdd1
    · cases hm2
end
end LI

namespace LI
open PySem L2 PyProof.Rows
abbrev Exn := Nat × List (Str × An)
def exF (e : Exn) : List Str := e.2.map (·.1)
def exD (e : Exn) : List D := e.2.map fun p => eA p.2
def exR {σ : Type} (er : σ → D) (ds' : List D) : Exn ⊕ σ → (D × List D) ⊕ (Nat × List Str × List D × List D)
  | .inr y => .inl (er y, ds')
  | .inl e => .inr (e.1, exF e, exD e, ds')
def Tfx {τ σ : Type} (et' : τ → List D) (er : σ → D) (F : FX) (t : τ → Option (Exn ⊕ σ)) : Prop := ∀ x r, t x = some r → ∃ ds', F (et' x) = some (exR er ds' r)
def QfX {τ : Type} (e : τ → D) (kp : List Bool) (mk : τ → List D) : Fl → List D → Exn ⊕ τ → Prop := fun fl ρ r => match r with
  | .inr y => Qf e kp mk fl ρ y
  | .inl x => fl = .ex x.1 (exF x) (exD x)
theorem run_TX {τ : Type} {e : τ → D} {n : Nat} {kp : List Bool} {m : SM} {ds : List D} {mk : τ → List D} {o : Option (Exn ⊕ τ)} {r : Exn ⊕ τ} (hl : (ds.length == kp.length) = true) (hb : Bk (QfX e kp mk) m (ds ++ List.replicate (n - ds.length) .gone) o) (h : o = some r) : ∃ ds', runX n kp m ds = some (exR e ds' r) := by
  obtain ⟨fl, ρ', h1, h2⟩ := hb r h
  unfold runX
  rw [if_pos (by simpa using hl), h1, Option.bind_some]
  cases r with
  | inl x =>
    have h2 : fl = .ex x.1 (exF x) (exD x) := h2
    subst h2
    exact ⟨_, rfl⟩
  | inr y =>
    obtain ⟨h2, h3⟩ := h2
    rcases h2 with rfl | ⟨rfl, h2⟩
    · exact ⟨_, rfl⟩
    · exact ⟨_, by show some (Sum.inl (D.non, _)) = some (Sum.inl (e y, _)); rw [h2]⟩
def noEx : Fl → Bool
  | .ex _ _ _ => false
  | _ => true
def Qi {υ : Type} (i : Nat) (Q : Fl → List D → υ → Prop) : Fl → List D → υ → Prop := fun fl ρ t => noEx fl = true ∧ Q fl (ρ.set i .gone) t
def tryT {σ υ : Type} (ok : Exn → Bool) (o : Option (Exn ⊕ σ)) (k : σ → Option υ) (h : Exn → Option υ) : Option υ := o.bind fun r => match r with
  | .inr y => k y
  | .inl e => if ok e = true then h e else none
section
variable {τ σ υ : Type} {Q : Fl → List D → υ → Prop} {m r a : SM} {ρ : List D} {ms : AM}
theorem b_raise0 {n : Nat} {t : υ} (h : Q (.ex n [] []) ρ t) : Bk Q (seqM (raise0 n) m) ρ (some t) := fun t' ht => by cases ht; exact ⟨_, _, rfl, h⟩
theorem b_raise1 {α : Type} {e : α → D} [Fz e] {n : Nat} {f : Str} {mm : RM} {o : Option α} {k : α → υ} (h : Ev e mm ρ o) (h2 : ∀ x, Q (.ex n [f] [e x]) ρ (k x)) : Bk Q (seqM (raise1 n f mm) m) ρ (o.bind fun x => some (k x)) := fun t ht => by
  obtain ⟨x, h3, h4⟩ := ob_some ht
  cases h4
  refine ⟨_, _, ?_, h2 x⟩
  unfold seqM raise1
  rw [h x h3, Option.bind_some, if_pos (Fz.fz x)]; rfl
theorem callX_at {et et' : τ → List D} {er : σ → D} {F : FX} {t : τ → Option (Exn ⊕ σ)} {os : Option τ} (hT : Tfx et' er F t) (hs : Ea et et' true ms ρ os) {r : Exn ⊕ σ} (h : os.bind t = some r) : callX F ms ρ = some (match r with | .inr y => .inl (er y, ρ) | .inl e => .inr (e.1, exF e, exD e, ρ)) := by
  obtain ⟨x, h1, h2⟩ := ob_some h
  obtain ⟨ds', h3⟩ := hT x r h2
  unfold callX
  rw [hs.run x h1, Option.bind_some, if_pos (hs.fz rfl x), hs.ic, h3, Option.bind_some]
  cases r <;> rfl
theorem b_seqQ {kl : List Nat} (env : σ → List D) {oa : Option (σ ⊕ υ)} {k : σ → Option υ} (ha : Bk (Qm kl env Q) a ρ oa) (hr : ∀ s, Bk Q r (env s) (k s)) : Bk Q (seqM a (killM kl r)) ρ (oa.bind fun u => seqT u k) := fun t ht => by
  obtain ⟨u, h1, h2⟩ := ob_some ht
  obtain ⟨fl, ρ', h3, h4⟩ := ha u h1
  unfold seqM
  rw [h3, Option.bind_some]
  cases u with
  | inl s =>
    obtain ⟨h5, h6⟩ := h4
    rw [nxB_nx h5]
    obtain ⟨f2, ρ2, h7, h8⟩ := hr s t h2
    refine ⟨f2, ρ2, ?_, h8⟩
    show killM kl r ρ' = _
    unfold killM
    rw [h6, h7]
  | inr t2 =>
    cases h2
    obtain ⟨h5, h6⟩ := h4
    refine ⟨fl, ρ', ?_, h6⟩
    cases fl <;> first | rfl | cases h5
end
def fldT (f : Str) (e : Exn) : Option An := e.2.lookup f
theorem x_fldX {f : Str} {e : Exn} {ρ : List D} : Ev eA (xfldM f (exF e) (exD e)) ρ (fldT f e) := fun y hy => by
  unfold xfldM fldT exF exD at *
  generalize e.2 = l at hy ⊢
  induction l with
  | nil => cases hy
  | cons p l ih =>
    rw [List.lookup_cons] at hy
    rw [List.map_cons, List.map_cons]
    unfold fldX
    by_cases q : f = p.1
    · have : (f == p.1) = true := by simp [q]
      rw [this] at hy
      cases hy
      rw [if_pos q]
    · have : (f == p.1) = false := by simp [q]
      rw [this] at hy
      rw [if_neg q]
      exact ih hy
def okL (l : List (Nat × List Str)) (n : Nat) (fs : List Str) : Bool := decide ((n, fs) ∈ l)
theorem okL_mem {l : List (Nat × List Str)} {n : Nat} {fs : List Str} (h : okL l n fs = true) : (n, fs) ∈ l := of_decide_eq_true h
theorem kitAny_subs {K : PySem.W.Frag} {t : Value} {cl : Nat → Addr} {f : Nat → Bool} : ∀ (ks : List Nat), (∀ k ∈ ks, PySem.W.kitOne K t (.ref (cl k)) = some (f k)) → PySem.W.kitAny K t (ks.map fun k => Value.ref (cl k)) = some (ks.any f)
  | [], _ => rfl
  | k :: ks, h => by
    rw [List.map_cons, List.any_cons]
    have h1 := h k List.mem_cons_self
    refine kitAny_cons h1 (fun hb => ?_) (fun hb => by rw [hb]; rfl)
    rw [hb, Bool.false_or]
    exact kitAny_subs ks fun j hj => h j (List.mem_cons_of_mem _ hj)
theorem paired_cls {cl : Nat → Addr} : ∀ ks : List Nat, Paired ClsV (ks.map fun k => V.ref (cl k)) (ks.map fun k => Value.ref (cl k))
  | [] => .nil
  | _ :: ks => .cons (.own _) (paired_cls ks)
end LI

namespace LI
open PySem L2 PyProof.Rows
def tMethE (C : Addr) (m : Str) (sp : Sp) (E : L2.St → XK) (ta : TE) (t : TA) : TE := fun σ H Q => ta σ H fun x H1 => ∃ a dx fs, x = .ref a ∧ H1 a = some (.ins C dx fs) ∧ fs.lookup m = none ∧ t σ H1 fun vs H2 => sp (x :: vs) H2 Q (E σ)
section
variable {X : Cx} {cl : Nat → Addr} {En' : En} {o e : Expr} {es : List Expr} {pos apos : Pos} {CX : CXT} {k : Nat} {f C : Addr} {fd : FuncData} {ps : List Str} {sp : Sp} {nm : Str} {ta : TE} {t : TA} {W : L2.St → XK}
theorem pe_methE {pl : Sem Bool} (he : PE X o ta) (c : Cls X.K C) (hm : Meth X.K C nm f) (F : FnOk X.prog X.w X.K X.mg X.base CX k f fd ps sp) (hr : Room k X.A) (hb : Binds X.K fd ps []) (hx : ∀ σ, PassesAt CX X σ (W σ)) (ha : PA X (e :: es) t)
    (hst : starEach (e :: es) X.env = (false, eval e X.env) :: starEach es X.env := by rfl) (hpl : (backTo pos (starEach es X.env)).any (·.1) = false := by rfl)
    (ht : eval (.Call (.Attribute o nm apos) (e :: es) [] pos) X.env = (do
      let ov ← eval o X.env
      standAt apos.atName
      let (f, first) ← holding [ov] (getMethod ov nm pl)
      callWith pos f first (backTo pos (starEach (e :: es) X.env)) (backToKw pos (keywordEach [] X.env))) := by rfl) :
    PE X (.Call (.Attribute o nm apos) (e :: es) [] pos) (tMethE C nm sp W ta t) := by
  refine ⟨fun pins s σ H Q I h => ?_⟩
  refine PySem.W.methodCall_KW (pl := pl) (thn (he.run pins s σ H _ I h) fun u s1 ⟨x, H1, I1, rx, a, dx, fs, ex, ea, l, q⟩ => ?_) ht
  subst ex
  obtain rfl : u = Value.ref a := rx
  refine getmeth_ok I1 ea c hm l ?_
  refine PySem.W.callWith_K (first := [.ref a]) (h₀ := X.base) I.ok.mod.kin hm.kp (thn (ha.run pos pins s1 σ H1 _ I1 q) fun us s2 ⟨vs, H2, I2, r, q2⟩ => ⟨I2.kIn, ?_⟩) hst hpl
  exact run_fnS (us := .ref a :: us) (vs := .ref a :: vs) F hr hb (hx σ) I2 (.cons rfl r) q2
end
def methX (n : Nat) (nm : Str) (L : Lens) (F : FX) (ms : AM) : XGM := fun ρ => (L.get ρ).bind fun self => (ms ρ).bind fun ds => if isObjK n nm self = true ∧ frzL ds = true then (F (self :: ds)).bind fun r => match r with
  | .inl (d, self' :: _) => some (.inl (d, L.put ρ self'))
  | .inr (k, fs, es, self' :: _) => some (.inr (k, fs, es, L.put ρ self'))
  | _ => none
  else none
section
variable {X : Cx} {cl : Nat → Addr} {E : En} {o e : Expr} {es : List Expr} {pos apos : Pos} {k n : Nat} {f : Addr} {fd : FuncData} {ps : List Str} {F : FX} {nm : Str} {ms : AM} {L : Lens} {σ : L2.St} {H : Hp} {Q : VK}
theorem methX_run (h : tX ⟨X.K, cl, X.w⟩ E (methX n nm L F ms) σ H Q) : tMethE (cl n) nm (spX ⟨X.K, cl, X.w⟩ F) (WE E.xw) (tPl ⟨X.K, cl, X.w⟩ E L) (tAR ⟨X.K, cl, X.w⟩ E ms) σ H Q := by
  obtain ⟨P, S, ρ, r0, w, hm, q⟩ := h
  unfold methX at hm
  cases e1 : L.get ρ with
  | none => rw [e1] at hm; cases hm
  | some self =>
    cases e2 : ms ρ with
    | none => rw [e1, e2] at hm; cases hm
    | some ds =>
      rw [e1, e2, Option.bind_some, Option.bind_some] at hm
      split at hm
      · rename_i hc
        cases e3 : F (self :: ds) with
        | none => rw [e3] at hm; cases hm
        | some r =>
          rw [e3, Option.bind_some] at hm
          refine ⟨P, S, fz, ρ, self, w, e1, fun v Sd R l => ?_⟩
          obtain ⟨a, dx, fs, ev, hh, hl⟩ := isObj_v w.ph hc.1 l.rep
          refine ⟨a, dx, fs, ev, hh, hl, P, S, fz, ρ, ds, w, e2, fun vs H1 P1 U1 g1 r1 => ?_⟩
          have z := RepL.frz0 ds vs U1 hc.2 r1
          subst z
          have l1 := l.grow g1
          have w1 := w.grow g1
          refine ⟨P1, fa Sd fz, self :: ds, r, ⟨v, vs, Sd, fz, rfl, l1.rep, r1, rfl⟩, g1.ph, fun b => by have := w.le b; have := l.sum b; simp only [fa, fz] at *; omega, fun b hb => w1.out b (by have := l.sum b; simp only [fa, fz] at *; omega), e3, ?_⟩
          cases r with
          | inl r =>
            obtain ⟨d1, rs⟩ := r
            cases rs with
            | nil => cases hm
            | cons self' rs =>
              cases hm
              intro v2 H2 P2 U S' st rd rl
              rw [fa_fz] at st
              obtain ⟨y, ys, T1, T2, e4, rself, _, e5⟩ := rl
              cases e4
              have henv := l1.put P2 H2 self' T1 st.p0 (fun b u hb hu => st.fr b u (by have := w.le b; have := l.sum b; simp only [fz] at *; omega) hu) rself
              have w2 := w1.through l1.sum st henv (U := U) (fun b => by rw [e5]; simp only [fa]; omega) (Rep.there d1 v2 U rd)
              rw [fz_fa] at w2
              exact q v2 H2 P2 _ U w2 (g1.p.trans st.p0) rd
          | inr r =>
            obtain ⟨k', fs', es', rs⟩ := r
            cases rs with
            | nil => cases hm
            | cons self' rs =>
              cases hm
              intro us H2 P2 S' st re rl
              rw [fa_fz] at st
              obtain ⟨y, ys, T1, T2, e4, rself, _, e5⟩ := rl
              cases e4
              have henv := l1.put P2 H2 self' T1 st.p0 (fun b u hb hu => st.fr b u (by have := w.le b; have := l.sum b; simp only [fz] at *; omega) hu) rself
              have st2 : Stp P1 Sd H1 P2 (fa fz S') H2 := by rw [fz_fa]; exact st
              have w2 := w1.through l1.sum st2 henv (U := fz) (fun b => by rw [e5]; simp only [fa]; omega) (fun b hb => by simp [fz] at hb)
              rw [fa_fz] at w2
              exact q us H2 P2 _ w2 (g1.p.trans st.p0) re
      · cases hm
theorem f_methX {pl : Sem Bool} (n : Nat) (he : PE X o (tPl ⟨X.K, cl, X.w⟩ E L)) (c : Cls X.K (cl n)) (hm : Meth X.K (cl n) nm f) (G : FnOk X.prog X.w X.K X.mg X.base (L2N.CX X.prog X.w) k f fd ps (spX ⟨X.K, cl, X.w⟩ F)) (hr : Room k X.A) (hb : Binds X.K fd ps []) (tk : L2N.Takes X E.xw) (ha : PA X (e :: es) (tAR ⟨X.K, cl, X.w⟩ E ms))
    (hst : starEach (e :: es) X.env = (false, eval e X.env) :: starEach es X.env := by rfl) (hpl : (backTo pos (starEach es X.env)).any (·.1) = false := by rfl)
    (ht : eval (.Call (.Attribute o nm apos) (e :: es) [] pos) X.env = (do
      let ov ← eval o X.env
      standAt apos.atName
      let (f, first) ← holding [ov] (getMethod ov nm pl)
      callWith pos f first (backTo pos (starEach (e :: es) X.env)) (backToKw pos (keywordEach [] X.env))) := by rfl) :
    PE X (.Call (.Attribute o nm apos) (e :: es) [] pos) (tX ⟨X.K, cl, X.w⟩ E (methX n nm L F ms)) := PE_imp (pe_methE (W := WE E.xw) he c hm G hr hb (fun σ => L2N.passAt tk σ) ha hst hpl ht) fun _ _ _ h => methX_run h
end
section
variable {X : Cx} {cl : Nat → Addr} {E : En} {o e : Expr} {es : List Expr} {pos apos : Pos} {k n : Nat} {f : Addr} {fd : FuncData} {ps : List Str} {F : FX} {nm : Str} {ms : AM} {mo : RM}
end
def exG {σ : Type} (er : σ → D) (ρ : List D) : Exn ⊕ σ → (D × List D) ⊕ (Nat × List Str × List D × List D)
  | .inr y => .inl (er y, ρ)
  | .inl e => .inr (e.1, exF e, exD e, ρ)
def EvX {σ : Type} (er : σ → D) (g : XGM) (ρ : List D) (o : Option (Exn ⊕ σ)) : Prop := ∀ r, o = some r → g ρ = some (exG er ρ r)
section
variable {κ τ σ υ : Type} {Q : Fl → List D → υ → Prop} {m : SM} {ρ : List D} {ms : AM} {mo : RM}
theorem x_callX {et et' : τ → List D} {er : σ → D} {F : FX} {t : τ → Option (Exn ⊕ σ)} {os : Option τ} (hT : Tfx et' er F t) (hs : Ea et et' true ms ρ os) : EvX er (callX F ms) ρ (os.bind t) := fun r h => by
  rw [callX_at hT hs h]
  cases r <;> rfl
theorem b_tryE {i : Nat} {sub : Nat → List Str → Bool} {mh : Nat → List Str → List D → SM} {er : σ → D} {g : XGM} {o : Option (Exn ⊕ σ)} {k : σ → υ} {h : Exn → Option υ} (ok : Exn → Bool) (hg : EvX er g ρ o) (hok : ∀ e, ok e = true → sub e.1 (exF e) = true) (hi : decide (i < ρ.length) = true) (hρ : ρ.set i .gone = ρ)
    (hk : ∀ y, Q .nx ρ (k y)) (hh : ∀ e, Bk (Qi i Q) (mh e.1 (exF e) (exD e)) ρ (h e)) : Bk Q (tryM i sub (exprX g) mh) ρ (tryT ok o (fun y => some (k y)) h) := fun z hz => by
  obtain ⟨r, e1, e2⟩ := ob_some hz
  unfold tryM exprX
  rw [hg r e1, Option.bind_some]
  cases r with
  | inr y => cases e2; exact ⟨_, _, rfl, hk y⟩
  | inl e =>
    dsimp only at e2
    split at e2
    · rename_i ho
      obtain ⟨fl, ρ', h1, h2, h3⟩ := hh e z e2
      refine ⟨fl, ρ'.set i .gone, ?_, h3⟩
      unfold exG
      dsimp only [Option.bind_some]
      rw [if_pos ⟨hok e ho, by simpa using hi⟩, hρ, h1, Option.bind_some]
      cases fl <;> first | rfl | cases h2
    · cases e2
end
def exV {σ : Type} (er : σ → D) (ρ : List D) : Exn ⊕ σ → (D × List D) ⊕ (Nat × List Str × List D × List D)
  | .inr y => .inl (er y, ρ)
  | .inl e => .inr (e.1, exF e, exD e, ρ)
def EgX {ι σ : Type} (er : σ → D) (out : ι → Exn ⊕ σ) (env : ι → List D) (g : XGM) (ρ : List D) (o : Option ι) : Prop := ∀ r, o = some r → g ρ = some (exV er (env r) (out r))
theorem EvX.eg {σ : Type} {er : σ → D} {g : XGM} {ρ : List D} {o : Option (Exn ⊕ σ)} (h : EvX er g ρ o) : EgX er (fun r => r) (fun _ => ρ) g ρ o := fun r hr => by
  rw [h r hr]; cases r <;> rfl
def bindX {ι σ υ : Type} (out : ι → Exn ⊕ σ) (o : Option ι) (k : ι → σ → Option υ) (f : ι → Exn → υ) : Option υ := o.bind fun r => match out r with
  | .inr y => k r y
  | .inl e => some (f r e)
def Tmx {κ τ σ : Type} (ec : κ → D) (et : τ → List D) (er : σ → D) (F : FX) (t : κ → τ → Option ((Exn ⊕ σ) × κ)) : Prop := ∀ x p r, t x p = some r → ∃ ds', F (ec x :: et p) = some (exR er (ec r.2 :: ds') r.1)
def QfXS {τ κ : Type} (e : τ → D) (kp : List Bool) (mk : κ → List D) : Fl → List D → (Exn ⊕ τ) × κ → Prop := fun fl ρ r => (match r.1 with
  | .inr y => fl = .rt (e y) ∨ (fl = .nx ∧ e y = .non)
  | .inl x => fl = .ex x.1 (exF x) (exD x)) ∧ maskL kp ρ = mk r.2
theorem run_TXS {τ κ : Type} {e : τ → D} {n : Nat} {kp : List Bool} {m : SM} {ds : List D} {mk : κ → List D} {o : Option ((Exn ⊕ τ) × κ)} {r : (Exn ⊕ τ) × κ} (hl : (ds.length == kp.length) = true) (hb : Bk (QfXS e kp mk) m (ds ++ List.replicate (n - ds.length) .gone) o) (h : o = some r) : runX n kp m ds = some (exR e (mk r.2) r.1) := by
  obtain ⟨fl, ρ', h1, h2, h3⟩ := hb r h
  unfold runX
  rw [if_pos (by simpa using hl), h1, Option.bind_some]
  obtain ⟨r1, r2⟩ := r
  cases r1 with
  | inl x =>
    have h2 : fl = .ex x.1 (exF x) (exD x) := h2
    subst h2
    show some (Sum.inr (_, _, _, maskL kp ρ')) = _
    rw [h3]; rfl
  | inr y =>
    rcases (show fl = .rt (e y) ∨ (fl = .nx ∧ e y = .non) from h2) with rfl | ⟨rfl, h4⟩
    · show some (Sum.inl (e y, maskL kp ρ')) = _
      rw [h3]; rfl
    · show some (Sum.inl (D.non, maskL kp ρ')) = some (Sum.inl (e y, mk r2))
      rw [h3, h4]
section
variable {κ τ ι σ υ : Type} {Q : Fl → List D → υ → Prop} {m : SM} {ρ : List D} {ms : AM} {L : Lens} {er : σ → D} {out : ι → Exn ⊕ σ} {env : ι → List D} {g : XGM} {o : Option ι}
theorem eg_methX {ec : κ → D} {x : κ} {et et' : τ → List D} {F : FX} {t : κ → τ → Option ((Exn ⊕ σ) × κ)} {n : Nat} {nm : Str} {env : (Exn ⊕ σ) × κ → List D} {os : Option τ} (hT : Tmx ec et er F t) (hg : L.get ρ = some (ec x)) (hk : isObjK n nm (ec x) = true) (hs : Ea et et' true ms ρ os) (hp : ∀ r, L.put ρ (ec r.2) = env r) :
    EgX er (fun r : (Exn ⊕ σ) × κ => r.1) env (methX n nm L F ms) ρ (os.bind fun p => t x p) := fun r hr => by
  obtain ⟨p, h1, h2⟩ := ob_some hr
  obtain ⟨ds', h3⟩ := hT x p r h2
  unfold methX
  rw [hg, Option.bind_some, hs.run p h1, Option.bind_some, if_pos ⟨hk, hs.fz rfl p⟩, h3, Option.bind_some]
  have := hp r
  obtain ⟨r1, r2⟩ := r
  cases r1 <;> (unfold exR exV; dsimp only at this ⊢; rw [this])
theorem b_exprE {k : ι → σ → Option υ} {f : ι → Exn → υ} (hg : EgX er out env g ρ o) (h1 : ∀ r y, Bk Q m (env r) (k r y)) (h2 : ∀ r e, Q (.ex e.1 (exF e) (exD e)) (env r) (f r e)) : Bk Q (seqM (exprX g) m) ρ (bindX out o k f) := fun z hz => by
  obtain ⟨r, e1, e2⟩ := ob_some hz
  unfold seqM exprX
  rw [hg r e1, Option.bind_some]
  cases h : out r with
  | inl e => rw [h] at e2; cases e2; exact ⟨_, _, rfl, h2 r e⟩
  | inr y => rw [h] at e2; exact h1 r y z e2
theorem b_setE {i : Nat} {k : ι → σ → Option υ} {f : ι → Exn → υ} (env2 : ι → σ → List D) (hg : EgX er out env g ρ o) (he : ∀ r y, (env r).set i (er y) = env2 r y) (h1 : ∀ r y, Bk Q m (env2 r y) (k r y)) (h2 : ∀ r e, Q (.ex e.1 (exF e) (exD e)) (env r) (f r e)) : Bk Q (seqM (setX i g) m) ρ (bindX out o k f) := fun z hz => by
  obtain ⟨r, e1, e2⟩ := ob_some hz
  unfold seqM setX
  rw [hg r e1, Option.bind_some]
  cases h : out r with
  | inl e => rw [h] at e2; cases e2; exact ⟨_, _, rfl, h2 r e⟩
  | inr y =>
    rw [h] at e2
    show ∃ fl ρ', m ((env r).set i (er y)) = _ ∧ _
    rw [he]
    exact h1 r y z e2
end
end LI

namespace LI
open PySem L2 PyProof.Rows
def forXM (f : TgM) (body : SM) (kl : List Nat) (g : XGM) : SM := fun ρ => (g ρ).bind fun r => match r with
  | .inl (.lst false ds, ρ1) => if frzL ds = true then forL f body kl ds ρ1 else none
  | .inl _ => none
  | .inr (n, fs, es, ρ1) => some (.ex n fs es, ρ1)
theorem forX_run {c : LC} {E : En} {tl kl : List Nat} {f : TgM} {body : SM} {g : XGM} {D : Ends} {σ : L2.St} {H : Hp} (h : tS c E (forXM f body kl g) D σ H) : tFor (iList c.K (tX c E g)) (tPG c E tl f) (tS c E body) D σ H := by
  obtain ⟨P, S, ρ, fl, ρ', w, hm, q⟩ := h
  unfold forXM at hm
  cases eg : g ρ with
  | none => rw [eg] at hm; cases hm
  | some r =>
    rw [eg, Option.bind_some] at hm
    refine ⟨P, S, ρ, r, w, eg, ?_⟩
    cases r with
    | inr r => cases hm; exact fun us H' P' S' w' x re => q us σ H' P' S' fz w' x re
    | inl r =>
      obtain ⟨d, ρ1⟩ := r
      split at hm
      · rename_i ds ρ2 heq
        cases heq
        split at hm
        · rename_i hz
          intro v H1 P1 S1 U w1 ex rd
          obtain ⟨a, xs, e1, hp, rl⟩ := rd
          have z := RepL.frz0 _ xs _ hz rl
          subst z
          refine ⟨a, e1, ⟨xs, .inl (.inl (w1.ph _ _ hp))⟩, ?_⟩
          obtain ⟨G, Y, wk, hG, hY⟩ := iter_lst (c := c) (H := H1) (.inl (.inl hp)) rl fun _ => repL_h rl
          refine for_it wk (fun i σi Hi => ∃ P2 S2 ρi, Wd c E P2 S2 fz σi Hi ρi ∧ Ex P1 P2 ∧ forL f body kl (ds.drop i) ρi = some (fl, ρ')) ?_ ?_ ?_ ?_
          · exact ⟨P1, S1, ρ1, w1, .refl _, hm⟩
          · rintro i σi Hi hi ⟨P2, S2, ρi, w2, e2, _⟩
            exact hG P2 Hi e2 w2.ph
          · rintro i x σi Hi H3 hi ⟨P2, S2, ρi, w2, e2, hf⟩ y
            obtain ⟨P3, d, g3, hd, rd⟩ := hY i P2 Hi x H3 e2 w2.ph hi y
            have hdrop : ds.drop i = d :: ds.drop (i + 1) := by
              rw [List.drop_eq_getElem_cons hi]
              congr 1
              rw [List.getElem?_eq_getElem hi] at hd
              exact Option.some.inj hd
            rw [hdrop] at hf
            unfold forL at hf
            cases ef : f d ρi with
            | none => rw [ef] at hf; cases hf
            | some ρ1 =>
              cases eb : body ρ1 with
              | none => rw [ef, Option.bind_some, eb] at hf; cases hf
              | some r =>
                obtain ⟨f1, ρ2⟩ := r
                rw [ef, Option.bind_some, eb, Option.bind_some] at hf
                have w3 : Wd c E P3 S2 (fa fz fz) σi H3 ρi := by rw [fa_fz]; exact w2.grow g3
                refine ⟨P3, S2, fz, fz, ρi, d, ρ1, w3, rd, ef, fun σ4 S4 w4 _ _ => ⟨P3, S4, ρ1, f1, ρ2, w4, eb, ?_⟩⟩
                cases f1 with
                | nx =>
                  intro σ' H' P' S' w' x'
                  obtain ⟨S5, w5⟩ := w'.forget kl
                  exact ⟨P', S5, _, w5, (e2.trans g3.p).trans x', hf⟩
                | ct =>
                  intro σ' H' P' S' w' x'
                  obtain ⟨S5, w5⟩ := w'.forget kl
                  exact ⟨P', S5, _, w5, (e2.trans g3.p).trans x', hf⟩
                | bk =>
                  cases hf
                  intro σ' H' P' S' w' x'
                  obtain ⟨S5, w5⟩ := w'.forget kl
                  exact q σ' H' P' S5 w5 (((ex.trans e2).trans g3.p).trans x')
                | rt d' =>
                  cases hf
                  exact q
                | ex n fs es =>
                  cases hf
                  exact fun vs σ' H' P' S' U w' x' => q vs σ' H' P' S' U w' (((ex.trans e2).trans g3.p).trans x')
          · rintro σi Hi ⟨P2, S2, ρi, w2, e2, hf⟩
            rw [List.drop_length] at hf
            cases hf
            exact q σi Hi P2 S2 w2 (ex.trans e2)
        · cases hm
      · cases hm
      · rename_i heq; cases heq
section
variable {X : Cx} {cl : Nat → Addr} {E : En} {pos : Pos}
theorem s_forX {iter tg : Expr} {sb : List Stmt} {tl : List Nat} (kl : List Nat) {f : TgM} {body : SM} {g : XGM} (hp : PassesOwn (model X.prog X.w) X.A X.env X.xe) (hc : X.calm = true) (hi : PE X iter (tX ⟨X.K, cl, X.w⟩ E g)) (hg : PG X tg (tPG ⟨X.K, cl, X.w⟩ E tl f)) (hb : PSs X sb (tS ⟨X.K, cl, X.w⟩ E body))
    (hs : ∀ x, foldedSetIterable iter X.env x = pure x := by intro _; rfl) : PS X (.For tg iter sb [] pos) (tS ⟨X.K, cl, X.w⟩ E (forXM f body kl g)) := PS_imp (ps_for hp hc (pi_list hi) hg hb hs) fun _ _ _ h => forX_run h
end
section
variable {α ι σ υ : Type} {Q : Fl → List D → υ → Prop} {m : SM} {ρ : List D} {er : σ → D} {out : ι → Exn ⊕ σ} {env : ι → List D} {g : XGM} {o : Option ι}
def itK (ds : List D) : AM := fun _ => some ds
theorem ei_itK {e : α → D} {xs : List α} : Ei e (itK (xs.map e)) ρ (some xs) := fun z hz => by cases hz; rfl
theorem b_forX {e : α → D} {out : ι → Exn ⊕ List α} {f : TgM} {body : SM} {kl : List Nat} {K : ι → List α → Option υ} {F : ι → Exn → υ} [Fz e] (hg : EgX (eL false e) out env g ρ o) (h1 : ∀ r xs, Bk Q (seqM (forM f body kl (itK (xs.map e))) m) (env r) (K r xs)) (h2 : ∀ r x, Q (.ex x.1 (exF x) (exD x)) (env r) (F r x)) :
    Bk Q (seqM (forXM f body kl g) m) ρ (bindX out o K F) := fun z hz => by
  obtain ⟨r, e1, e2⟩ := ob_some hz
  unfold seqM forXM
  rw [hg r e1, Option.bind_some]
  cases h : out r with
  | inl x => rw [h] at e2; cases e2; exact ⟨_, _, rfl, h2 r x⟩
  | inr xs =>
    rw [h] at e2
    obtain ⟨fl, ρ', h3, h4⟩ := h1 r xs z e2
    refine ⟨fl, ρ', ?_, h4⟩
    rw [← h3]
    unfold exV eL
    dsimp only
    rw [if_pos (fz_map xs)]
    rfl
end
end LI

namespace LI
open PySem L2 PyProof.Rows
section
variable {P : Program} {w : World} {K : PySem.W.Frag} {mg : Str → Option Value} {base : Heap} {cl : Nat → Addr}
theorem okH_def {x qual : Str} {st : Stmt} {f : Addr} {fd : FuncData} {N ps : List Str} {k : Nat} {kp : List Bool} {m : SM} (F : Fun K x qual st f fd) (S : FnScope N ps (defScope st)) (hk : kp.length = ps.length)
    (hbody : ∀ (cdv : Value) (A : Around) (outer : List Env) (s : Shared) (H : Hp) (E : XK) (p : Addr × Obj) (e : En), e.kp = kp → L2H.RoomH k (A.deeper (envOfC qual (defScope st) s.heap.objs.size f cdv)) →
      PSs (L2H.cxH CX0 P w K mg base N qual (defScope st) f cdv A outer s H E p).nox (defBody st) (tS ⟨K, cl, w⟩ e m)) : L2H.FnH P w K mg base CX0 (k + 1) f fd ps (spD ⟨K, cl, w⟩ (runM N.length kp m)) := by
  obtain ⟨_, _, _, _, _, _, cdv, _, _, e0, lk, hcd⟩ := F.ex
  subst e0
  refine L2H.fn_ofH lk hcd S (fun vs H Q E h => ?_) fun A outer s H vs Q E p hot hr h => ?_
  · obtain ⟨Pp, Sp, ds, d, ds', r, _, _, _, hm, _⟩ := h
    unfold runM at hm
    split at hm
    · rename_i hl
      rw [← r.length, hl, hk]
    · cases hm
  · obtain ⟨Pp, Sp, ds, d, ds', r, e1, e2, e3, hm, q⟩ := h
    unfold runM at hm
    split at hm
    · rename_i hl
      have hlv : vs.length = kp.length := by rw [← r.length, hl]
      have hvs : ∀ i : Nat, kp[i]? = some true → ∃ v, vs[i]? = some v := fun i hi => by
        have hi' : i < kp.length := (List.getElem?_eq_some_iff.mp hi).1
        exact ⟨_, List.getElem?_eq_getElem (by omega)⟩
      refine ⟨_, (hbody cdv A outer s H E p ⟨Pp, H, Sp, kp, vs, hvs, fun _ _ _ _ => False⟩ rfl hr).nox, ?_⟩
      cases em : m (ds ++ List.replicate (N.length - ds.length) .gone) with
      | none => rw [em] at hm; cases hm
      | some rr =>
        obtain ⟨fl, ρ'⟩ := rr
        rw [em, Option.bind_some] at hm
        have w0 : Wd ⟨K, cl, w⟩ ⟨Pp, H, Sp, kp, vs, hvs, fun _ _ _ _ => False⟩ Pp Sp fz (L2.start N vs) H (ds ++ List.replicate (N.length - ds.length) .gone) := by
          refine ⟨?_, fun a => by have := e2 a; simp only [fz]; omega, fun a h => e3 a (by simpa [fz] using h), fun a h => by simp [fz] at h, e1, .refl _, fun _ _ _ h => h, fun a h => .inl h, fun a h => .inl (by simpa [fz] using h), fun i v h1 h2 => ?_⟩
          · unfold L2.start
            rw [r.length]
            exact repE_start _ r
          · unfold L2.start
            have h2 : vs[i]? = some v := h2
            rw [List.getElem?_append_left (by rw [List.length_map]; exact (List.getElem?_eq_some_iff.mp h2).1), List.getElem?_map, h2]
            rfl
        have fin : ∀ (v : V) (σ' : L2.St) (H' P' : Hp) (S' U : FP) (d1 : D), Wd ⟨K, cl, w⟩ ⟨Pp, H, Sp, kp, vs, hvs, fun _ _ _ _ => False⟩ P' S' U σ' H' ρ' → Rep ⟨K, cl, w⟩ P' H' d1 v U → some (d1, maskL kp ρ') = some (d, ds') → Q v H' := by
          intro v σ' H' P' S' U d1 w' rd hs
          cases hs
          obtain ⟨S2, k1, k2⟩ := mask_rep (kp := kp) (vs := vs) w'.env hlv.symm w'.kp
          exact q v H' P' U S2 ⟨w'.p0, w'.ph, w'.fr, w'.np, fun a h => w'.ns a (by have := k2 a; simp only [fa] at h; omega), fun a => by have := k2 a; have := w'.le a; simp only [fa]; omega, fun a h => w'.out a (by have := k2 a; simp only [fa] at h; omega)⟩ rd k1
        refine ⟨Pp, Sp, _, fl, ρ', w0, em, ?_⟩
        cases fl with
        | nx => exact fun σ' H' P' S' w' _ => fin .non σ' H' P' S' fz .non w' ⟨rfl, rfl⟩ hm
        | rt d1 => exact fun v σ' H' P' S' U w' r => fin v σ' H' P' S' U d1 w' r hm
        | bk => cases hm
        | ct => cases hm
        | ex n fs es => cases hm
    · cases hm
end
section
variable {X : Cx} {cl : Nat → Addr} {E : En} {e : Expr} {es : List Expr} {p pos : Pos} {a : Addr} {oe : Obj} {cls : Value} {d : Option Addr} {pn : List (Addr × Obj)} {ms : AM} {F : FM}
theorem roomH_units {k : Nat} {A : Around} (r : L2H.RoomH k A) : A.units + 64 < cLine := by have := r.un; omega
theorem hot_of (hz : L2N.Zn cls d oe) (hf : ∃ vs, oe.data = .fields vs) : L2H.HotC (X.suite a ((a, oe) :: pn)) := by
  obtain ⟨vs, h⟩ := hf
  exact ⟨(a, oe), ⟨rfl, vs, h, hz.2.2 vs h⟩, List.mem_cons_self⟩
end
end LI

namespace LI
open PySem PyProof.Rows L2
section
variable {X : Cx} {CX : CXT} {k : Nat} {f C : Addr} {fd : FuncData} {ps : List Str} {sp : Sp} {W : L2.St → XK} {x : Str} {p pos : Pos} {e : Expr} {es : List Expr} {t : TA}
def tMakeS (C : Addr) (sp : Sp) (W : L2.St → XK) (t : TA) : TE := fun σ H Q => t σ H fun vs H1 => ∀ x dx, H1 x = none → H1 dx = none → dx ≠ x → sp (.ref x :: vs) (upd (upd H1 dx (.own x)) x (.ins C dx [])) (fun v H2 => v = .non ∧ Q (.ref x) H2) (W σ)
theorem run_makeS {pins : List (Addr × Obj)} {σ : L2.St} {H : Hp} {s : Shared} {Q : VK} {us : List Value} {vs : List V} (M : Mk X.K C f) (F : FnOk X.prog X.w X.K X.mg X.base CX k f fd ps sp) (hr : Room (k + 1) X.A) (hb : Binds X.K fd ps [])
    (hx : PassesAt CX X σ (W σ)) (I : Inv X pins σ H s) (r : Vals vs us)
    (h : ∀ x dx, H x = none → H dx = none → dx ≠ x → sp (.ref x :: vs) (upd (upd H dx (.own x)) x (.ins C dx [])) (fun v H2 => v = .non ∧ Q (.ref x) H2) (W σ)) :
    wpAny (model X.prog X.w) X.A (call (.ref C) us) (EP X pins σ Q) X.xe s := by
  have hq := h (s.heap.objs.size + 1) s.heap.objs.size (I.hok.fresh (Nat.le_succ _)) (I.hok.fresh (Nat.le_refl _)) (Nat.ne_of_lt (Nat.lt_succ_self _))
  have I2 := Inv.made (C := C) I
  have r2 : Vals (V.ref (s.heap.objs.size + 1) :: vs) (Value.ref (s.heap.objs.size + 1) :: us) := .cons rfl r
  have hl : (Value.ref (s.heap.objs.size + 1) :: us).length = ps.length := by
    have e := r2.length
    rw [F.len _ _ _ _ hq] at e
    exact e.symm
  have b := hb _ (Value.ref (s.heap.objs.size + 1) :: us) I2.kIn (by rw [List.append_nil]; exact hl)
  rw [List.append_nil] at b
  refine wpAny_call (make_map (f := f) I.kIn M.makes M.init (beq_iff_eq.mp M.fn) (codeAny_mono (F.run _ X.stack _ _ ⟨Value.ref (s.heap.objs.size + 1) :: us, []⟩ (Value.ref (s.heap.objs.size + 1) :: us) _ _ (W σ) (hr.make C us [])
    (I2.env0.make C us []) b r2 hq) fun r s' hq' => ?_))
  cases r with
  | error e => exact hx pins _ _ e s' I2 hq'
  | ok fl =>
    cases fl with
    | ret u =>
      obtain ⟨v, H', I3, rv, ev, q3⟩ := I2.after hq'
      subst ev
      exact ⟨rv, ⟨V.ref (s.heap.objs.size + 1), H', I3, rfl, q3⟩⟩
    | next => exact False.elim hq'
    | brk => exact False.elim hq'
    | cont => exact False.elim hq'
theorem pe_makeS (M : Mk X.K C f) (F : FnOk X.prog X.w X.K X.mg X.base CX k f fd ps sp) (hr : Room (k + 1) X.A) (hg : Gl X x) (hm : X.mg x = some (.ref C)) (hb : Binds X.K fd ps []) (hx : ∀ σ, PassesAt CX X σ (W σ))
    (ha : PA X (e :: es) t) (hdb : (x == ("__debug__" : Str)) = false := by decide) (he : starEach (e :: es) X.env = (false, eval e X.env) :: starEach es X.env := by rfl) (hpl : (backTo pos (starEach es X.env)).any (·.1) = false := by rfl) :
    PE X (.Call (.Name x p) (e :: es) [] pos) (tMakeS C sp W t) := by
  refine ⟨fun pins s σ H Q I h => ?_⟩
  refine wpAny_Call_Name_kw (ld_glob I hg hm ?_ hdb)
  refine PySem.W.callWith_K (h₀ := X.base) I.ok.mod.kin M.kp (thn (ha.run pos pins s σ H _ I h) fun us s1 ⟨vs, H1, I1, r, q⟩ => ⟨I1.kIn, ?_⟩) he hpl
  exact run_makeS M F hr hb (hx σ) I1 r q
end
def mkXO (ρ : List D) : (D × List D) ⊕ (Nat × List Str × List D × List D) → Option ((D × List D) ⊕ (Nat × List Str × List D × List D))
  | .inl (.non, self :: _) => some (.inl (self, ρ))
  | .inr (k, fs, es, _) => some (.inr (k, fs, es, ρ))
  | _ => none
def mkX (n : Nat) (F : FX) (ms : AM) : XGM := fun ρ => (ms ρ).bind fun ds => if frzL ds = true then (F (.obj true n [] [] :: ds)).bind (mkXO ρ) else none
section
variable {X : Cx} {cl : Nat → Addr} {E : En} {e : Expr} {es : List Expr} {pos p : Pos} {k n : Nat} {f : Addr} {fd : FuncData} {ps : List Str} {F : FX} {x : Str} {ms : AM}
theorem mkX_run {c : LC} {P H : Hp} {S : FP} {σ : L2.St} {ρ : List D} {ds : List D} {vs : List V} {Q : VK} {r : (D × List D) ⊕ (Nat × List Str × List D × List D)} {r0 : (D × List D) ⊕ (Nat × List Str × List D × List D)} (w : Wd c E P S fz σ H ρ) (rl : RepL c P H ds vs fz) (hf : F (.obj true n [] [] :: ds) = some r)
    (hr : mkXO ρ r = some r0) (q : tXr c E P σ Q r0) :
    ∀ x dx, H x = none → H dx = none → dx ≠ x → spX c F (.ref x :: vs) (upd (upd H dx (.own x)) x (.ins (c.cl n) dx [])) (fun v H2 => v = .non ∧ Q (.ref x) H2) (WE E.xw σ) := by
  intro x dx hx hdx hne
  have e := w.ph
  have ex : Ex H (upd (upd H dx (.own x)) x (.ins (c.cl n) dx [])) := fun a o z => by
    rw [upd_ne (ne_of_none z hx), upd_ne (ne_of_none z hdx)]; exact z
  have back : ∀ a, upd (upd H dx (.own x)) x (.ins (c.cl n) dx []) a = none → H a = none := fun a z => by
    cases q : H a with
    | none => rfl
    | some o => rw [ex a o q] at z; cases z
  have old : ∀ a, (0 < one x a ∨ upd (upd H dx (.own x)) x (.ins (c.cl n) dx []) a = none) → H a = none := fun a z => by
    rcases z with z | z
    · rw [one_pos z]; exact hx
    · exact back a z
  have gr : ∀ {P' H' : Hp} {T : FP}, Stp P (one x) (upd (upd H dx (.own x)) x (.ins (c.cl n) dx [])) P' T H' → Gr P H P' H' := fun st => ⟨st.p0, fun a o z => st.fr a o (by unfold one; rw [if_neg (ne_of_none z hx)]) (ex a o z), st.ph, fun a z => by
    rcases st.np a z with z | z | z
    · exact .inl z
    · exact .inr (old a (.inl z))
    · exact .inr (old a (.inr z))⟩
  refine ⟨P, fa (one x) fz, .obj true n [] [] :: ds, r, ⟨.ref x, vs, one x, fz, rfl, ⟨x, dx, [], fz, rfl, upd_same, rfl, ⟨rfl, rfl⟩, (fa_fz _).symm⟩, RepL.mono (.refl P) ds vs fz (fun b o h1 _ => by simp [fz] at h1) rl, rfl⟩, e.trans ex, fun a => by rw [fa_fz]; exact one_le a, fun a z => ?_, hf, ?_⟩
  · rw [fa_fz] at z; rw [one_pos z]; exact none_of e hx
  · cases r with
    | inl r =>
      obtain ⟨d, rs⟩ := r
      cases rs with
      | nil => cases d <;> cases hr
      | cons self rs =>
        have hd : d = .non ∧ r0 = .inl (self, ρ) := by cases d <;> first | (cases hr; exact ⟨rfl, rfl⟩) | cases hr
        obtain ⟨hd, h0⟩ := hd
        subst hd h0
        intro v H' P' U S' st rd rs
        rw [fa_fz] at st
        obtain ⟨y, ys, T1, T2, e1, r1, _, e2⟩ := rs
        cases e1
        have g := gr st
        have w2 := w.aside g (U := T1) (fun a => by have := st.le a; rw [e2] at this; simp only [fa] at this; omega) (fun a h => ⟨old a (st.ns a (by rw [e2]; simp only [fa]; omega)), st.out a (by rw [e2]; simp only [fa]; omega)⟩) (Rep.there _ _ T1 r1)
        rw [fz_fa] at w2
        exact ⟨rd.1, q (.ref x) H' P' S T1 w2 g.p r1⟩
    | inr r =>
      obtain ⟨k', fs, es', rs⟩ := r
      cases hr
      intro us H' P' S' st re rs
      rw [fa_fz] at st
      exact q us H' P' S (w.grow (gr st)) (gr st).p re
theorem f_mkX (n : Nat) (M : Mk X.K (cl n) f) (G : FnOk X.prog X.w X.K X.mg X.base (L2N.CX X.prog X.w) k f fd ps (spX ⟨X.K, cl, X.w⟩ F)) (hr : Room (k + 1) X.A) (hg : Gl X x) (hm : X.mg x = some (.ref (cl n))) (hb : Binds X.K fd ps []) (tk : L2N.Takes X E.xw)
    (ha : PA X (e :: es) (tAR ⟨X.K, cl, X.w⟩ E ms)) (hdb : (x == ("__debug__" : Str)) = false := by decide) (he : starEach (e :: es) X.env = (false, eval e X.env) :: starEach es X.env := by rfl) (hpl : (backTo pos (starEach es X.env)).any (·.1) = false := by rfl) :
    PE X (.Call (.Name x p) (e :: es) [] pos) (tX ⟨X.K, cl, X.w⟩ E (mkX n F ms)) := PE_imp (pe_makeS (W := WE E.xw) M G hr hg hm hb (fun σ => L2N.passAt tk σ) ha hdb he hpl) fun σ H Q ⟨P, S, ρ, r0, w, h, q⟩ => by
  unfold mkX at h
  cases e1 : ms ρ with
  | none => rw [e1] at h; cases h
  | some ds =>
    rw [e1, Option.bind_some] at h
    split at h
    · rename_i hz
      cases e2 : F (.obj true n [] [] :: ds) with
      | none => rw [e2] at h; cases h
      | some r =>
        rw [e2, Option.bind_some] at h
        refine ⟨P, S, fz, ρ, ds, w, e1, fun vs H1 P1 U1 g1 r1 => ?_⟩
        have := RepL.frz0 ds vs U1 hz r1
        subst this
        refine mkX_run (r0 := r0) (w.grow g1) r1 e2 h ?_
        cases r0 with
        | inl r0 => exact fun v H' P' S' U w' e' rd => q v H' P' S' U w' (g1.p.trans e') rd
        | inr r0 => exact fun us H' P' S' w' e' re => q us H' P' S' w' (g1.p.trans e') re
    · cases h
end
def exI {κ : Type} (ec : κ → D) (ds' : List D) : Exn ⊕ κ → (D × List D) ⊕ (Nat × List Str × List D × List D)
  | .inr y => .inl (.non, ec y :: ds')
  | .inl e => .inr (e.1, exF e, exD e, ds')
def Tnx {τ κ : Type} (n : Nat) (et : τ → List D) (ec : κ → D) (F : FX) (t : τ → Option (Exn ⊕ κ)) : Prop := ∀ p r, t p = some r → ∃ ds', F (.obj true n [] [] :: et p) = some (exI ec ds' r)
def QfXI {κ : Type} (ec : κ → D) (kp : List Bool) (mk : κ → List D) : Fl → List D → Exn ⊕ κ → Prop := fun fl ρ r => match r with
  | .inr y => (fl = .nx ∨ fl = .rt .non) ∧ ∃ ds', maskL kp ρ = ec y :: ds'
  | .inl x => fl = .ex x.1 (exF x) (exD x)
theorem run_TXI {κ : Type} {ec : κ → D} {n : Nat} {kp : List Bool} {m : SM} {ds : List D} {mk : κ → List D} {o : Option (Exn ⊕ κ)} {r : Exn ⊕ κ} (hl : (ds.length == kp.length) = true) (hb : Bk (QfXI ec kp mk) m (ds ++ List.replicate (n - ds.length) .gone) o) (h : o = some r) :
    ∃ ds', runX n kp m ds = some (exI ec ds' r) := by
  obtain ⟨fl, ρ', h1, h2⟩ := hb r h
  unfold runX
  rw [if_pos (by simpa using hl), h1, Option.bind_some]
  cases r with
  | inl x =>
    have h2 : fl = .ex x.1 (exF x) (exD x) := h2
    subst h2
    exact ⟨_, rfl⟩
  | inr y =>
    obtain ⟨h2, ds', h3⟩ := h2
    rcases h2 with rfl | rfl
    · exact ⟨ds', by show some (Sum.inl (D.non, maskL kp ρ')) = some (Sum.inl (D.non, ec y :: ds')); rw [h3]⟩
    · exact ⟨ds', by show some (Sum.inl (D.non, maskL kp ρ')) = some (Sum.inl (D.non, ec y :: ds')); rw [h3]⟩
section
variable {κ τ σ υ : Type} {ρ : List D} {ms : AM}
theorem x_mkX {ec : κ → D} {et et' : τ → List D} {F : FX} {t : τ → Option (Exn ⊕ κ)} {n : Nat} {os : Option τ} (hT : Tnx n et ec F t) (hs : Ea et et' true ms ρ os) : EvX ec (mkX n F ms) ρ (os.bind t) := fun r hr => by
  obtain ⟨p, h1, h2⟩ := ob_some hr
  obtain ⟨ds', h3⟩ := hT p r h2
  unfold mkX
  rw [hs.run p h1, Option.bind_some, if_pos (hs.fz rfl p), h3, Option.bind_some]
  cases r <;> rfl
end
end LI

namespace LI
open PySem PySem.Spec PyProof.Rows L2 HotX L2H
structure FnX (P : Program) (w : World) (K : PySem.W.Frag) (mg : Str → Option Value) (base : Heap) (k : Nat) (f : Addr) (fd : FuncData) (ps : List Str) (sp : Addr → Obj → Sp) : Prop where
  len : ∀ a oe vs H Q E, sp a oe vs H Q E → vs.length = ps.length
  run : ∀ (A : Around) (outer : List Env) (s : Shared) (H : Hp) (args : Args) (us : List Value) (vs : List V) (Q : VK) (E : XK) (a : Addr) (oe : Obj), RoomH k A → Hot1 A (a, oe) → PinOk outer H s (a, oe) → Env0 P w K mg base A outer s H → BindsTo s fd args (ps.zip us) → Vals vs us → sp a oe vs H Q E →
    codeAny (model P w) A (.call (.ref f) args) (CR CX0 outer P w H s Q E) s
theorem fn_ofX {P : Program} {w : World} {K : PySem.W.Frag} {mg : Str → Option Value} {base : Heap} {k : Nat} {f : Addr} {name qual : Str} {params : Arguments} {body : List Stmt} {scope : Scope} {dV kV doc pm cdv ct oc : Value} {an od : Option Addr}
    {osl : Array (Option Value)} {N ps : List Str} {sp : Addr → Obj → Sp} (lk : K.lookup f = some ⟨oc, od, .func (PySem.W.fnOf name qual params body scope dV kV doc pm an cdv ct), osl⟩) (hcd : PySem.W.codeIn K cdv qual = true) (S : FnScope N ps scope)
    (len : ∀ a oe vs H Q E, sp a oe vs H Q E → vs.length = ps.length)
    (hbody : ∀ (A : Around) (outer : List Env) (s : Shared) (H : Hp) (vs : List V) (Q : VK) (E : XK) (a : Addr) (oe : Obj), A.handled = some (.ref a) → RoomH k (A.deeper (envOfC qual scope s.heap.objs.size f cdv)) → sp a oe vs H Q E →
      ∃ t, PSs ((cxOf CX0 P w K mg base N qual scope f cdv A outer s H E).suite a [(a, oe)]) body t ∧ t { nx := fun _ H' => Q .non H', rt := Q } (L2.start N vs) H) :
    FnX P w K mg base (k + 1) f (PySem.W.fnOf name qual params body scope dV kV doc pm an cdv ct) ps sp := by
  refine ⟨len, fun A outer s H args us vs Q E a oe hr hot hpin e0 hb r hsp => ?_⟩
  have hl := len _ _ _ _ _ _ hsp
  have KX : K.In s.heap := e0.mod.kin.keeps fun b o e => (e0.bs b o e).1
  have lim : s.heap.NoLimit := e0.mod.nolimit.keeps fun b o e => (e0.bs b o e).1
  have hkind : ∀ y ∈ ps.zip us, scope.names.lookup y.1 = some .local ∨ (scope.names.lookup y.1 = some .cell ∧ ((cellsFrom (s.heap.objs.size + 1) scope.names []).lookup y.1).isSome = true) := fun ⟨n, v⟩ hy => by
    rcases S.par n (List.of_mem_zip hy).1 with q | q
    · exact .inl q
    · exact .inr ⟨q, PySem.W.cellsFrom_some _ _ _ (.inl q)⟩
  refine codeAny_call_function hr.depth (KX _ _ lk) rfl S.co S.gen rfl (PySem.W.codeRec_of KX hcd) (hb _ _ _ _ ?_)
  refine wpAny_newFunctionEnv_cells S.kind hkind fun env he s1 x => ?_
  subst he
  refine ⟨lim.keeps x.toInCall.keep, codeAny_func ?_⟩
  obtain ⟨t, ht, hq⟩ := hbody A outer s H vs Q E a oe hot.1 (hr.deeper _) hsp
  have I : Inv (cxH CX0 P w K mg base N qual scope f cdv A outer s H E (a, oe)) [] (L2.start N vs) H s1 := inv_startH S hpin e0 hl r x
  have cxe : (cxH CX0 P w K mg base N qual scope f cdv A outer s H E (a, oe)).nox = (cxOf CX0 P w K mg base N qual scope f cdv A outer s H E).suite a [(a, oe)] := by
    obtain ⟨h0, h1⟩ := hot
    obtain ⟨hd, dp, fr, gu, un⟩ := A
    cases h0
    rfl
  have ht2 : PSs (cxH CX0 P w K mg base N qual scope f cdv A outer s H E (a, oe)) body t := PSs.nox (by rw [cxe]; exact ht)
  refine wpAny_mono (ht2.run [] s1 (L2.start N vs) H _ I hq) (fun fl s' hs => ?_) fun e s' hs => hs
  have fin : ∀ {σ' : L2.St} {H' : Hp} {v : V} {u : Value}, Inv (cxH CX0 P w K mg base N qual scope f cdv A outer s H E (a, oe)) [] σ' H' s' → RelV v u → Q v H' → CE outer P w H s Q u s' :=
    fun {σ' H' v u} J rv q => ⟨v, H', J.os, J.bare, J.base, J.hok, rv, q⟩
  cases fl with
  | ret u =>
    obtain ⟨v, σ', H', J, rv, q⟩ := hs
    exact fin J rv q
  | next =>
    obtain ⟨σ', H', J, q⟩ := hs
    exact fin (v := V.non) (u := Value.none) J rfl q
  | brk =>
    obtain ⟨_, _, _, q⟩ := hs
    exact False.elim q
  | cont =>
    obtain ⟨_, _, _, q⟩ := hs
    exact False.elim q
section
variable {X : Cx} {k : Nat} {f : Addr} {fd : FuncData} {ps : List Str} {sp : Addr → Obj → Sp} {x : Str} {q pos : Pos} {e : Expr} {es : List Expr} {t : TA} {a : Addr} {oe : Obj}
theorem run_fnX {pins : List (Addr × Obj)} {σ : L2.St} {H : Hp} {s : Shared} {Q : VK} {us : List Value} {vs : List V} (F : FnX X.prog X.w X.K X.mg X.base k f fd ps sp) (hr : RoomH k X.A) (hot : Hot1 X.A (a, oe)) (hp : (a, oe) ∈ X.pn) (hb : Binds X.K fd ps [])
    (I : Inv X pins σ H s) (r : Vals vs us) (h : sp a oe vs H Q E0) : wpAny (model X.prog X.w) X.A (call (.ref f) us) (EP X pins σ Q) X.xe s := by
  have hl : us.length = ps.length := by rw [← r.length]; exact F.len _ _ _ _ _ _ h
  have b := hb s us I.kIn (by rw [List.append_nil]; exact hl)
  rw [List.append_nil] at b
  have P1 := I.pin (a, oe) (List.mem_append_left _ hp)
  have hpin : PinOk X.stack H s (a, oe) := ⟨P1.1, P1.2.1, fun hm => (List.mem_cons.mp (I.stkSub a hm)).elim P1.2.2.1 P1.2.2.2.1, P1.2.2.2.2⟩
  refine wpAny_call (codeAny_mono (F.run X.A X.stack s H ⟨us, []⟩ us vs Q E0 a oe hr hot hpin I.env0 b r h) fun r s' hq => ?_)
  cases r with
  | error e => exact False.elim hq
  | ok fl =>
    cases fl with
    | ret u => exact I.after hq
    | next => exact False.elim hq
    | brk => exact False.elim hq
    | cont => exact False.elim hq
theorem pe_callX (F : FnX X.prog X.w X.K X.mg X.base k f fd ps sp) (hr : RoomH k X.A) (hot : Hot1 X.A (a, oe)) (hp : (a, oe) ∈ X.pn) (hg : Gl X x) (hm : X.mg x = some (.ref f)) (hk : PySem.W.keepIn X.K (.ref f) = true) (hb : Binds X.K fd ps [])
    (ha : PA X (e :: es) t) (hdb : (x == ("__debug__" : Str)) = false := by decide) (he : starEach (e :: es) X.env = (false, eval e X.env) :: starEach es X.env := by rfl) (hpl : (backTo pos (starEach es X.env)).any (·.1) = false := by rfl) :
    PE X (.Call (.Name x q) (e :: es) [] pos) (tCallS (sp a oe) (fun _ => E0) t) := by
  refine ⟨fun pins s σ H Q I h => ?_⟩
  refine wpAny_Call_Name_kw (ld_glob I hg hm ?_ hdb)
  refine PySem.W.callWith_K (h₀ := X.base) I.ok.mod.kin hk (thn (ha.run pos pins s σ H _ I h) fun us s1 ⟨vs, H1, I1, r, q⟩ => ⟨I1.kIn, ?_⟩) he hpl
  exact run_fnX F hr hot hp hb I1 r q
end
structure Hd (c : LC) (P : Hp) (n : Nat) (fs : List Str) (es : List D) (cls : Value) (d : Option Addr) : Prop where
  cls : cls = .ref (c.cl n)
  no : fs = [] → d = none
  fld : fs ≠ [] → ∃ dd us, d = some dd ∧ P dd = some (.xd (fs.zip us)) ∧ ∀ H, RepL c P H es us fz
theorem Held.hd {c : LC} {E : En} {i n : Nat} {a : Addr} {fs : List Str} {es : List D} {cls : Value} {d : Option Addr} {P : Hp} (h : Held c E i a n fs es cls d) (e : Ex E.P0 P) : Hd c P n fs es cls d := ⟨h.cls, h.no, fun z => by
  obtain ⟨dd, us, h1, h2, h3⟩ := h.fld z
  exact ⟨dd, us, h1, e _ _ h2, fun H => RepL.mono e _ _ fz (fun b o h1 _ => by simp [fz] at h1) (h3 H)⟩⟩
abbrev FE := Nat → List Str → List D → Option D
def spE (c : LC) (ok : Nat → List Str → Bool) (F : FE) : Addr → Obj → Sp := fun a oe vs H Q _ => ∃ P n fs es cls d dd, vs = [.ref a] ∧ L2N.Zn cls d oe ∧ (∃ ws, oe.data = .fields ws) ∧ ok n fs = true ∧ Hd c P n fs es cls d ∧ Ex P H ∧ F n fs es = some dd ∧ FQ c P H dd Q
def runE (n : Nat) (m : Nat → List Str → List D → SM) : FE := fun k fs es => (m k fs es (.gone :: List.replicate (n - 1) .gone)).bind fun r => match r.1 with
  | .rt d => some d
  | .nx => some .non
  | _ => none
section
variable {P : Program} {w : World} {K : PySem.W.Frag} {mg : Str → Option Value} {base : Heap} {cl : Nat → Addr}
theorem okE_def {x qual : Str} {st : Stmt} {f : Addr} {fd : FuncData} {N : List Str} {y : Str} {k : Nat} {ok : Nat → List Str → Bool} {m : Nat → List Str → List D → SM} (F : Fun K x qual st f fd) (S : FnScope N [y] (defScope st))
    (hbody : ∀ (cdv : Value) (A : Around) (outer : List Env) (s : Shared) (H : Hp) (E : XK) (a : Addr) (oe : Obj) (cls : Value) (d : Option Addr) (n : Nat) (fs : List Str) (es : List D) (e : En), L2N.Zn cls d oe → (∃ vs, oe.data = .fields vs) → e.kp = [true] → ok n fs = true → Held ⟨K, cl, w⟩ e 0 a n fs es cls d →
      RoomH k (A.deeper (envOfC qual (defScope st) s.heap.objs.size f cdv)) →
      PSs ((cxOf CX0 P w K mg base N qual (defScope st) f cdv A outer s H E).suite a [(a, oe)]) (defBody st) (tS ⟨K, cl, w⟩ e (m n fs es))) : FnX P w K mg base (k + 1) f fd [y] (spE ⟨K, cl, w⟩ ok (runE N.length m)) := by
  obtain ⟨_, _, _, _, _, _, cdv, _, _, e0, lk, hcd⟩ := F.ex
  subst e0
  refine fn_ofX lk hcd S (fun a oe vs H Q E h => ?_) fun A outer s H vs Q E a oe hh hr h => ?_
  · obtain ⟨_, _, _, _, _, _, _, e, _⟩ := h
    rw [e]; rfl
  · obtain ⟨Pp, n, fs, es, cls, d, dd, ev, hz, hf, hok, hd, e1, hm, q⟩ := h
    subst ev
    have hvs : ∀ i : Nat, ([true] : List Bool)[i]? = some true → ∃ v, ([V.ref a] : List V)[i]? = some v := fun i hi => by
      have hi' : i < 1 := (List.getElem?_eq_some_iff.mp hi).1
      obtain rfl : i = 0 := by omega
      exact ⟨_, rfl⟩
    refine ⟨_, hbody cdv A outer s H E a oe cls d n fs es ⟨Pp, H, fz, [true], [.ref a], hvs, fun _ _ _ _ => False⟩ hz hf rfl hok ⟨rfl, rfl, hd.cls, hd.no, hd.fld⟩ hr, ?_⟩
    unfold runE at hm
    cases em : m n fs es (.gone :: List.replicate (N.length - 1) .gone) with
    | none => rw [em] at hm; cases hm
    | some rr =>
      obtain ⟨fl, ρ'⟩ := rr
      rw [em, Option.bind_some] at hm
      have w0 : Wd ⟨K, cl, w⟩ ⟨Pp, H, fz, [true], [.ref a], hvs, fun _ _ _ _ => False⟩ Pp fz fz (L2.start N [.ref a]) H (.gone :: List.replicate (N.length - 1) .gone) := by
        refine ⟨?_, fun b => by simp [fz], fun b h => by simp [fz] at h, fun b h => by simp [fz] at h, e1, .refl _, fun _ _ _ h => h, fun b h => .inl h, fun b h => by simp [fz] at h, fun i v h1 h2 => ?_⟩
        · unfold L2.start
          have r0 : RepL ⟨K, cl, w⟩ Pp H [.gone] [.ref a] fz := ⟨.ref a, [], fz, fz, rfl, rfl, ⟨rfl, rfl⟩, (fa_fz fz).symm⟩
          exact repE_start (N.length - 1) r0
        · have h2 : ([V.ref a] : List V)[i]? = some v := h2
          unfold L2.start
          rw [List.getElem?_append_left (by rw [List.length_map]; exact (List.getElem?_eq_some_iff.mp h2).1), List.getElem?_map, h2]
          rfl
      have fin : ∀ (v : V) (σ' : L2.St) (H' P' : Hp) (S' U : FP) (d1 : D), Wd ⟨K, cl, w⟩ ⟨Pp, H, fz, [true], [.ref a], hvs, fun _ _ _ _ => False⟩ P' S' U σ' H' ρ' → Rep ⟨K, cl, w⟩ P' H' d1 v U → some d1 = some dd → Q v H' := by
        intro v σ' H' P' S' U d1 w' rd hs
        cases hs
        exact q v H' P' U ⟨w'.p0, fun b o z => w'.fr b o rfl z, w'.ph, fun b z => by
          rcases w'.np b z with y | y | y
          · exact .inl y
          · simp [fz] at y
          · exact .inr y⟩ rd (fun b => by have := w'.le b; omega) fun b z => ⟨by
          rcases w'.ns b (by omega) with y | y
          · simp [fz] at y
          · exact y, w'.out b (by omega)⟩
      refine ⟨Pp, fz, _, fl, ρ', w0, em, ?_⟩
      cases fl with
      | nx => exact fun σ' H' P' S' w' _ => fin .non σ' H' P' S' fz .non w' ⟨rfl, rfl⟩ hm
      | rt d1 => exact fun v σ' H' P' S' U w' r => fin v σ' H' P' S' U d1 w' r hm
      | bk => cases hm
      | ct => cases hm
      | ex n fs es => cases hm
end
def callE (F : FE) (n : Nat) (fs : List Str) (es : List D) : RM := fun _ => F n fs es
section
variable {X : Cx} {cl : Nat → Addr} {E : En} {p p1 pos : Pos} {a : Addr} {oe : Obj} {cls : Value} {d : Option Addr} {pn : List (Addr × Obj)} {ms : AM} {F : FE} {i n : Nat} {fs : List Str} {es : List D} {ok : Nat → List Str → Bool}
theorem hot1_of (hz : L2N.Zn cls d oe) (hf : ∃ vs, oe.data = .fields vs) : Hot1 (X.suite a ((a, oe) :: pn)).A (a, oe) := by
  obtain ⟨vs, h⟩ := hf
  exact ⟨rfl, vs, h, hz.2.2 vs h⟩
theorem f_callE {k : Nat} {f : Addr} {fd : FuncData} {g x y : Str} (hd : Held ⟨X.K, cl, X.w⟩ E i a n fs es cls d) (hz : L2N.Zn cls d oe) (hf : ∃ vs, oe.data = .fields vs) (hok : ok n fs = true) (G : FnX X.prog X.w X.K X.mg X.base k f fd [y] (spE ⟨X.K, cl, X.w⟩ ok F)) (hr : RoomH k X.A) (hg : Gl X g) (hm : X.mg g = some (.ref f)) (hk : PySem.W.keepIn X.K (.ref f) = true) (hb : Binds X.K fd [y] [])
    (hN : X.N[i]? = some x := by rfl) (hv : Vis X.env.scope x := by first | exact Or.inl rfl | exact Or.inr (Or.inl rfl) | exact Or.inr (Or.inr rfl)) (hdx : (x == ("__debug__" : Str)) = false := by decide) (hcd : (x == ("__classdict__" : Str)) = false := by decide)
    (hdb : (g == ("__debug__" : Str)) = false := by decide) (he : starEach [.Name x p1] X.env = (false, eval (.Name x p1) X.env) :: starEach [] X.env := by rfl) (hpl : (backTo pos (starEach [] X.env)).any (·.1) = false := by rfl) :
    PE (X.suite a ((a, oe) :: pn)) (.Call (.Name g p) [.Name x p1] [] pos) (tF ⟨X.K, cl, X.w⟩ E (callE F n fs es)) := by
  refine PE_imp (pe_callX (X := X.suite a ((a, oe) :: pn)) G ⟨hr.dp, hr.un⟩ (hot1_of hz hf) List.mem_cons_self hg hm hk hb (pa_cons (pe_var (i := i) hN hv hdx hcd) pa_nil he) hdb he hpl) fun σ H Q ⟨P, S, T, ρ, dd, w, h, q⟩ => ?_
  exact ⟨.ref a, hd.at w, P, n, fs, es, cls, d, dd, rfl, hz, hf, hok, hd.hd w.p0, w.ph, h, q⟩
theorem f_callHH {k : Nat} {f : Addr} {fd : FuncData} {ps : List Str} {x : Str} {e : Expr} {es : List Expr} {F : FM} (hz : L2N.Zn cls d oe) (hf : ∃ vs, oe.data = .fields vs) (G : L2H.FnH X.prog X.w X.K X.mg X.base CX0 k f fd ps (spD ⟨X.K, cl, X.w⟩ F)) (hr : RoomH k X.A) (hg : Gl X x) (hm : X.mg x = some (.ref f)) (hk : PySem.W.keepIn X.K (.ref f) = true) (hb : Binds X.K fd ps [])
    (ha : PA (X.suite a ((a, oe) :: pn)) (e :: es) (tAR ⟨X.K, cl, X.w⟩ E ms)) (hdb : (x == ("__debug__" : Str)) = false := by decide) (he : starEach (e :: es) X.env = (false, eval e X.env) :: starEach es X.env := by rfl) (hpl : (backTo pos (starEach es X.env)).any (·.1) = false := by rfl) :
    PE (X.suite a ((a, oe) :: pn)) (.Call (.Name x p) (e :: es) [] pos) (tF ⟨X.K, cl, X.w⟩ E (callM F ms)) := PE_imp (L2H.pe_callH (X := X.suite a ((a, oe) :: pn)) (E := fun _ => E0) G ⟨hr.dp, hr.un⟩ (hot_of hz hf) hg hm hk hb (fun _ _ _ _ _ _ _ h => h.elim) ha hdb he hpl) fun σ H Q ⟨P, S, T, ρ, dd, w, h, q⟩ => by
  obtain ⟨ds, ds', e1, e2, hz⟩ := call_split h
  refine ⟨P, S, T, ρ, ds, w, e1, fun vs H1 P1 U1 g1 r1 => ?_⟩
  exact spD_view g1.ph r1 e2 hz (q.grow g1)
end
def Tex {σ : Type} (er : σ → D) (F : FE) (t : Exn → Option σ) : Prop := ∀ e r, t e = some r → F e.1 (exF e) (exD e) = some (er r)
theorem x_callE {σ : Type} {er : σ → D} {F : FE} {t : Exn → Option σ} {e : Exn} {ρ : List D} (h : Tex er F t) : Ev er (callE F e.1 (exF e) (exD e)) ρ (t e) := fun r hr => h e r hr
theorem run_TE {σ : Type} {er : σ → D} {n : Nat} {m : Nat → List Str → List D → SM} {mk : σ → List D} {e : Exn} {o : Option σ} {r : σ} (hb : Bk (Qf er [true] mk) (m e.1 (exF e) (exD e)) (.gone :: List.replicate (n - 1) .gone) o) (h : o = some r) : runE n m e.1 (exF e) (exD e) = some (er r) := by
  obtain ⟨fl, ρ', h1, h2, h3⟩ := hb r h
  unfold runE
  rw [h1, Option.bind_some]
  rcases h2 with rfl | ⟨rfl, h2⟩
  · rfl
  · show some D.non = _
    rw [h2]
theorem o2_neG {α β : Type} {e : α → D} {e' : β → D} : O2 neD e e' eB (fun x y => (eqB (e x) (e' y)).bind fun k => some (!k)) := fun x y z h => by
  obtain ⟨k, h1, h2⟩ := ob_some h
  cases h2
  simp [neD, h1]; rfl
end LI

namespace OW
open PySem L2 LI
structure OReader where
  kept : Ts
  place : Int
def t_is_sign (thing : Ts) : Option Bool :=
  (if true = true then (((lenS thing).bind fun v1_ => some (decide (v1_ = (1 : Int)))).bind fun v2_ => (if v2_ = true then (some (!ltS thing [' '] && !ltS ['}'] thing)) else some false)) else some false)
def t_is_colour (thing : Ts) : Option Bool :=
  (if true = true then (((lenS thing).bind fun v1_ => some (decide (v1_ = (1 : Int)))).bind fun v2_ => (if v2_ = true then (inS thing ['a', 'b', 'c', 'd', 'e', 'f', 'g', 'h', '.']) else some false)) else some false)
def t_checked (text : Ts) : Option Unit :=
  if (!true) = true then
  none
  else
  (foldT (fun (s1_ : Unit) (x2_ : (Int × Ts)) =>
  ((((t_is_sign x2_.2).bind fun v3_ => some (!v3_)).bind fun v4_ => (if v4_ = true then ((inS x2_.2 ['\n', '\t']).bind fun k => some (!k)) else some false)).bind fun v5_ => if v5_ = true then
  none
  else
  some ())) (enumT 0 (chars text)) ()).bind fun (s1_ : Unit) =>
  some ()
def kt_ENDS : List (Ts × Ts) := [(['\n'], ['e', 'n', 'd']), (['\t'], ['a', 'n', 'e', 'w'])]
def t_sign_item (place : Int) (sign : Ts) : Option (Int × Ts × Ts) :=
  if ((kdS kt_ENDS sign).isSome) = true then
  ((kdS kt_ENDS sign).bind fun v1_ => some (place, v1_, ([] : Ts)))
  else
  some (place, (['s', 'i', 'g', 'n'] : Ts), sign)
def t_begins_mark (text : Ts) : Option Bool :=
  if (memT text ([(['['] : Ts), (['[', '/'] : Ts)] : (List Ts))) = true then
  some true
  else
  ((((lenS text).bind fun v1_ => some (decide (v1_ = (2 : Int)))).bind fun v2_ => (if v2_ = true then ((ixS text (0 : Int)).bind fun v3_ => some (decide (v3_ = (['['] : Ts)))) else some false)).bind fun v4_ => if v4_ = true then
  ((ixS text (1 : Int)).bind fun v5_ => (t_is_colour v5_))
  else
  (((lenS text).bind fun v6_ => some (decide (v6_ = (3 : Int)))).bind fun v7_ => (if v7_ = true then (((slS none (some (2 : Int)) text).bind fun v8_ => some (decide (v8_ = (['[', '/'] : Ts)))).bind fun v9_ => (if v9_ = true then ((ixS text (2 : Int)).bind fun v10_ => (t_is_colour v10_)) else some false)) else some false)))
def t_mark_item (place : Int) (text : Ts) : Option (Option (Int × Ts × Ts)) :=
  if (decide (text = (['[', '['] : Ts))) = true then
  some (some (place, (['s', 'i', 'g', 'n'] : Ts), (['['] : Ts)))
  else
  if (decide (text = (['[', ']'] : Ts))) = true then
  some (some (place, (['p', 'l', 'a', 'i', 'n'] : Ts), ([] : Ts)))
  else
  ((((lenS text).bind fun v1_ => some (decide (v1_ = (3 : Int)))).bind fun v2_ => (if v2_ = true then (((ixS text (0 : Int)).bind fun v3_ => some (decide (v3_ = (['['] : Ts)))).bind fun v4_ => (if v4_ = true then (((ixS text (1 : Int)).bind fun v5_ => (t_is_colour v5_)).bind fun v6_ => (if v6_ = true then ((ixS text (2 : Int)).bind fun v7_ => some ((decide (v7_ = ([']'] : Ts))))) else some false)) else some false)) else some false)).bind fun v8_ => if v8_ = true then
  (((ixS text (1 : Int)).bind fun v9_ => some (place, (['i', 'n', 'k'] : Ts), v9_)).bind fun v10_ => some (some v10_))
  else
  ((((lenS text).bind fun v11_ => some (decide (v11_ = (4 : Int)))).bind fun v12_ => (if v12_ = true then (((slS none (some (2 : Int)) text).bind fun v13_ => some (decide (v13_ = (['[', '/'] : Ts)))).bind fun v14_ => (if v14_ = true then (((ixS text (2 : Int)).bind fun v15_ => (t_is_colour v15_)).bind fun v16_ => (if v16_ = true then ((ixS text (3 : Int)).bind fun v17_ => some ((decide (v17_ = ([']'] : Ts))))) else some false)) else some false)) else some false)).bind fun v18_ => if v18_ = true then
  (((ixS text (2 : Int)).bind fun v19_ => some (place, (['g', 'r', 'o', 'u', 'n', 'd'] : Ts), v19_)).bind fun v20_ => some (some v20_))
  else
  some ((fun _ => none) ())))
def t_Reader_init  : Option OReader :=
  let u1_ : Ts := ([] : Ts)
  let u2_ : Int := (0 : Int)
  some ({ kept := u1_, place := u2_ : OReader })
def t_Reader_told (self : OReader) (many : Int) : Option ((List (Int × Ts × Ts)) × OReader) :=
  let found : (List (Int × Ts × Ts)) := ([] : (List (Int × Ts × Ts)))
  (((slS none (some many) self.kept).bind fun v1_ => some (chars v1_)).bind fun v2_ => (foldT (fun (s3_ : (OReader × (List (Int × Ts × Ts)))) (sign : Ts) =>
  (((t_sign_item s3_.1.place sign).bind fun v4_ => (appT s3_.2 v4_))).bind fun (u5_ : (List (Int × Ts × Ts))) =>
  let u6_ : Int := (s3_.1.place + (1 : Int))
  some ({ s3_.1 with place := u6_ }, u5_)) v2_ (self, found)).bind fun (s3_ : (OReader × (List (Int × Ts × Ts)))) =>
  ((slS (some many) none s3_.1.kept)).bind fun (u7_ : Ts) =>
  some (s3_.2, { s3_.1 with kept := u7_ }))
def t_Reader_take (self : OReader) (sign : Ts) : Option ((List (Int × Ts × Ts)) × OReader) :=
  (((catS self.kept sign).bind fun v1_ => (t_mark_item self.place v1_))).bind fun (whole : (Option (Int × Ts × Ts))) =>
  if (Option.isSome whole) = true then
  ((((lenS self.kept).bind fun v2_ => some (self.place + v2_)).bind fun v3_ => some (v3_ + (1 : Int)))).bind fun (u4_ : Int) =>
  let u5_ : Ts := ([] : Ts)
  ((whole.bind fun v6_ => some ([v6_] : (List (Int × Ts × Ts))))).bind fun u7_ => some (u7_, { { self with place := u4_ } with kept := u5_ })
  else
  (((catS self.kept sign).bind fun v8_ => (t_begins_mark v8_)).bind fun v9_ => if v9_ = true then
  ((catS self.kept sign)).bind fun (u10_ : Ts) =>
  some (([] : (List (Int × Ts × Ts))), { self with kept := u10_ })
  else
  (((lenS self.kept).bind fun v11_ => (t_Reader_told self v11_))).bind fun (u12_ : ((List (Int × Ts × Ts)) × OReader)) =>
  let u13_ : Ts := sign
  ((if (!decide (sign = (['['] : Ts))) = true then
  (((t_Reader_told ({ u12_.2 with kept := u13_ }) (1 : Int)).bind fun r14_ => (catL u12_.1 r14_.1).bind fun z15_ => some (r14_, z15_))).bind fun (u16_ : (((List (Int × Ts × Ts)) × OReader) × (List (Int × Ts × Ts)))) =>
  some (u16_.1.2, u16_.2)
  else
  some ({ u12_.2 with kept := u13_ }, u12_.1) : Option (OReader × (List (Int × Ts × Ts))))).bind fun (s17_ : (OReader × (List (Int × Ts × Ts)))) =>
  some (s17_.2, s17_.1))
def t_Reader_feed (self : OReader) (piece : Ts) : Option ((List (Int × Ts × Ts)) × OReader) :=
  ((t_checked piece)).bind fun (u1_ : Unit) =>
  let found : (List (Int × Ts × Ts)) := ([] : (List (Int × Ts × Ts)))
  (foldT (fun (s2_ : (OReader × (List (Int × Ts × Ts)))) (sign : Ts) =>
  (((t_Reader_take s2_.1 sign).bind fun r3_ => (catL s2_.2 r3_.1).bind fun z4_ => some (r3_, z4_))).bind fun (u5_ : (((List (Int × Ts × Ts)) × OReader) × (List (Int × Ts × Ts)))) =>
  some (u5_.1.2, u5_.2)) (chars piece) (self, found)).bind fun (s2_ : (OReader × (List (Int × Ts × Ts)))) =>
  some (s2_.2, s2_.1)
def t_Reader_finish (self : OReader) : Option ((List (Int × Ts × Ts)) × OReader) :=
  (((lenS self.kept).bind fun v1_ => (t_Reader_told self v1_))).bind fun u2_ => some (u2_.1, u2_.2)
def t_items_of (text : Ts) : Option (List (Int × Ts × Ts)) :=
  (t_Reader_init).bind fun (reader : OReader) =>
  ((t_Reader_feed reader text)).bind fun (u1_ : ((List (Int × Ts × Ts)) × OReader)) =>
  (((t_Reader_finish u1_.2).bind fun r2_ => (catL u1_.1 r2_.1).bind fun z3_ => some (z3_, r2_))).bind fun u4_ => some u4_.1
def t_lw_cell (script : (List Int)) (k : Int) : Option Int :=
  if decide (k < (List.length script : Int)) = true then
  (atI script k)
  else
  some (0 : Int)
def t_lw_mix (cell_here : Int) (k : Int) : Option Int :=
  if decide ((1000000000000000000 : Int) < cell_here) = true then
  let rest : Int := cell_here
  ((rngT k).bind fun v1_ => (foldT (fun (s2_ : Int) (turn : Int) =>
  let rest : Int := (s2_ / 1000000000)
  some rest) v1_ rest).bind fun (s2_ : Int) =>
  some (s2_ % 1000000000))
  else
  let number : Int := ((cell_here % 2147483647) + (7919 : Int))
  ((rngT (k + (2 : Int))).bind fun v3_ => (foldT (fun (s4_ : Int) (turn : Int) =>
  let number : Int := (((s4_ * 48271) + (104729 : Int)) % 2147483629)
  some number) v3_ number).bind fun (s4_ : Int) =>
  (((mulT s4_ s4_).bind fun v5_ => some (v5_ % 998244353)).bind fun v6_ => some (v6_ / 11)))
def t_lw_whole (found : Int) : Option Bool :=
  some (true && (!false))
end OW

namespace OW
open PySem L2 LI
end OW

namespace OW
open PySem L2 LI
structure OMaker where
  most : Int
  row : (List (Ts × Ts × Ts × Int))
  ink : Ts
  ground : Ts
  stale : Bool
  more : Bool
def t_checked_most (most : Int) : Option Unit :=
  if ((!true) || (false || (!(decide ((1 : Int) ≤ most) && decide (most ≤ (200 : Int)))))) = true then
  none
  else
  some ()
def t_Maker_init (most : Int) : Option OMaker :=
  ((t_checked_most most)).bind fun (u1_ : Unit) =>
  let u2_ : Int := most
  let u3_ : (List (Ts × Ts × Ts × Int)) := ([] : (List (Ts × Ts × Ts × Int)))
  let u4_ : Ts := ['.']
  let u5_ : Ts := ['.']
  let u6_ : Bool := false
  let u7_ : Bool := false
  some ({ most := u2_, row := u3_, ink := u4_, ground := u5_, stale := u6_, more := u7_ : OMaker })
def t_Maker_open_letters (self : OMaker) : Option (List (Ts × Ts × Ts × Int)) :=
  some self.row
def t_Maker_make_plain (self : OMaker) : Option OMaker :=
  let u1_ : Ts := ['.']
  let u2_ : Ts := ['.']
  some ({ { self with ink := u1_ } with ground := u2_ })
def t_Maker_tell_part (self : OMaker) (word : Ts) : Option ((List ((List (Ts × Ts × Ts × Int)) × Ts)) × OMaker) :=
  let part : ((List (Ts × Ts × Ts × Int)) × Ts) := (self.row, word)
  let u1_ : (List (Ts × Ts × Ts × Int)) := ([] : (List (Ts × Ts × Ts × Int)))
  let u2_ : Bool := false
  let u3_ : Bool := (decide (word = ['m', 'o', 'r', 'e']))
  some (([part] : (List ((List (Ts × Ts × Ts × Int)) × Ts))), { { { self with row := u1_ } with stale := u2_ } with more := u3_ })
def t_Maker_put_sign (self : OMaker) (sign : Ts) (place : Int) : Option ((List ((List (Ts × Ts × Ts × Int)) × Ts)) × OMaker) :=
  let found : (List ((List (Ts × Ts × Ts × Int)) × Ts)) := ([] : (List ((List (Ts × Ts × Ts × Int)) × Ts)))
  ((if (decide ((List.length self.row : Int) = self.most)) = true then
  ((t_Maker_tell_part self ['m', 'o', 'r', 'e'])).bind fun (u1_ : ((List ((List (Ts × Ts × Ts × Int)) × Ts)) × OMaker)) =>
  some (u1_.2, u1_.1)
  else
  some (self, found) : Option (OMaker × (List ((List (Ts × Ts × Ts × Int)) × Ts))))).bind fun (s2_ : (OMaker × (List ((List (Ts × Ts × Ts × Int)) × Ts)))) =>
  ((appT s2_.1.row (sign, s2_.1.ink, s2_.1.ground, place))).bind fun (u3_ : (List (Ts × Ts × Ts × Int))) =>
  some (s2_.2, { s2_.1 with row := u3_ })
def t_Maker_put (self : OMaker) (item : (Int × Ts × Ts)) : Option ((List ((List (Ts × Ts × Ts × Int)) × Ts)) × OMaker) :=
  let u1_ : (Int × Ts × Ts) := item
  if (decide (u1_.2.1 = (['e', 'n', 'd'] : Ts))) = true then
  ((t_Maker_make_plain self)).bind fun (u2_ : OMaker) =>
  ((t_Maker_tell_part u2_ ['w', 'h', 'o', 'l', 'e'])).bind fun u3_ => some (u3_.1, u3_.2)
  else
  if (decide (u1_.2.1 = (['a', 'n', 'e', 'w'] : Ts))) = true then
  ((t_Maker_make_plain self)).bind fun (u4_ : OMaker) =>
  let u5_ : Bool := true
  some (([] : (List ((List (Ts × Ts × Ts × Int)) × Ts))), { u4_ with stale := u5_ })
  else
  ((if self.stale = true then
  let u6_ : (List (Ts × Ts × Ts × Int)) := ([] : (List (Ts × Ts × Ts × Int)))
  let u7_ : Bool := false
  some ({ { self with row := u6_ } with stale := u7_ })
  else
  some self : Option OMaker)).bind fun (s8_ : OMaker) =>
  if (decide (u1_.2.1 = (['s', 'i', 'g', 'n'] : Ts))) = true then
  ((t_Maker_put_sign s8_ u1_.2.2 u1_.1)).bind fun u9_ => some (u9_.1, u9_.2)
  else
  ((if (decide (u1_.2.1 = (['i', 'n', 'k'] : Ts))) = true then
  let u10_ : Ts := u1_.2.2
  some ({ s8_ with ink := u10_ })
  else
  ((if (decide (u1_.2.1 = (['g', 'r', 'o', 'u', 'n', 'd'] : Ts))) = true then
  let u11_ : Ts := u1_.2.2
  some ({ s8_ with ground := u11_ })
  else
  ((t_Maker_make_plain s8_)).bind fun (u12_ : OMaker) =>
  some u12_ : Option OMaker)).bind fun (s13_ : OMaker) =>
  some s13_ : Option OMaker)).bind fun (s14_ : OMaker) =>
  some (([] : (List ((List (Ts × Ts × Ts × Int)) × Ts))), s14_)
def t_lw_letters_right (found : (List (Ts × Ts × Ts × Int))) (due : (List (Ts × Ts × Ts × Int))) : Option Bool :=
  if ((!true) || (!decide ((List.length found : Int) = (List.length due : Int)))) = true then
  some false
  else
  (forT (τ := Bool) (fun (s1_ : Unit) (letter : (Ts × Ts × Ts × Int)) =>
  ((if (!true) = true then some true else (if (!decide ((4 : Int) = (4 : Int))) = true then some true else ((t_lw_whole letter.2.2.2).bind fun v2_ => some (!v2_)))).bind fun v3_ => if v3_ = true then
  some (.rt false : (St Unit Bool))
  else
  (((compT (fun (thing : Ts) => (some true)) (fun (thing : Ts) => (some true)) ((fun t : (Ts × Ts × Ts) => ([t.1, t.2.1, t.2.2] : (List Ts))) (letter.1, letter.2.1, letter.2.2.1))).bind fun v4_ => some (!decide (v4_ = ([true, true, true] : (List Bool))))).bind fun v5_ => if v5_ = true then
  some (.rt false : (St Unit Bool))
  else
  some (.nx () : (St Unit Bool))))) found ()).bind fun u => seqT u fun (s1_ : Unit) => some (decide (found = due))
def t_lw_parts_right (found : (List ((List (Ts × Ts × Ts × Int)) × Ts))) (due : (List ((List (Ts × Ts × Ts × Int)) × Ts))) : Option Bool :=
  if ((!true) || (!decide ((List.length found : Int) = (List.length due : Int)))) = true then
  some false
  else
  (forT (τ := Bool) (fun (s1_ : Unit) (x2_ : (((List (Ts × Ts × Ts × Int)) × Ts) × ((List (Ts × Ts × Ts × Int)) × Ts))) =>
  if ((!true) || ((!decide ((2 : Int) = (2 : Int))) || (!decide (x2_.1.2 = x2_.2.2)))) = true then
  some (.rt false : (St Unit Bool))
  else
  (((t_lw_letters_right x2_.1.1 x2_.2.1).bind fun v3_ => some (!v3_)).bind fun v4_ => if v4_ = true then
  some (.rt false : (St Unit Bool))
  else
  some (.nx () : (St Unit Bool)))) (List.zip found due) ()).bind fun u => seqT u fun (s1_ : Unit) => some true
end OW

namespace OW
open PySem L2 LI
end OW

namespace OW
open PySem L2 LI
end OW

namespace OW
open PySem L2 LI
def t_Maker_tell_part_b (self : OMaker) (word : Ts) : Option ((List ((List (Ts × Ts × Ts × Int)) × Ts)) × OMaker) :=
  (((some self.row).bind fun (r1_ : (List (Ts × Ts × Ts × Int))) => (some word).bind fun (r2_ : Ts) => some ((r1_, r2_), r1_, r2_, ()))).bind fun (u3_ : (((List (Ts × Ts × Ts × Int)) × Ts) × (List (Ts × Ts × Ts × Int)) × Ts × Unit)) =>
  let u4_ : (List (Ts × Ts × Ts × Int)) := ([] : (List (Ts × Ts × Ts × Int)))
  let u5_ : Bool := false
  let u6_ : Bool := (decide (word = ['m', 'o', 'r', 'e']))
  (((some u3_.1).bind fun (r7_ : ((List (Ts × Ts × Ts × Int)) × Ts)) => some (([r7_] : (List ((List (Ts × Ts × Ts × Int)) × Ts))), r7_, ()))).bind fun u8_ => some (u8_.1, { { { self with row := u4_ } with stale := u5_ } with more := u6_ })
def t_Maker_put_sign_b (self : OMaker) (sign : Ts) (place : Int) : Option ((List ((List (Ts × Ts × Ts × Int)) × Ts)) × OMaker) :=
  let found : (List ((List (Ts × Ts × Ts × Int)) × Ts)) := ([] : (List ((List (Ts × Ts × Ts × Int)) × Ts)))
  ((if (decide ((List.length self.row : Int) = self.most)) = true then
  ((t_Maker_tell_part_b self ['m', 'o', 'r', 'e'])).bind fun (u1_ : ((List ((List (Ts × Ts × Ts × Int)) × Ts)) × OMaker)) =>
  some (u1_.2, u1_.1)
  else
  some (self, found) : Option (OMaker × (List ((List (Ts × Ts × Ts × Int)) × Ts))))).bind fun (s2_ : (OMaker × (List ((List (Ts × Ts × Ts × Int)) × Ts)))) =>
  ((appT s2_.1.row (sign, s2_.1.ink, s2_.1.ground, place))).bind fun (u3_ : (List (Ts × Ts × Ts × Int))) =>
  some (s2_.2, { s2_.1 with row := u3_ })
def t_Maker_put_b (self : OMaker) (item : (Int × Ts × Ts)) : Option ((List ((List (Ts × Ts × Ts × Int)) × Ts)) × OMaker) :=
  let u1_ : (Int × Ts × Ts) := item
  if (decide (u1_.2.1 = (['e', 'n', 'd'] : Ts))) = true then
  ((t_Maker_make_plain self)).bind fun (u2_ : OMaker) =>
  ((t_Maker_tell_part_b u2_ ['w', 'h', 'o', 'l', 'e'])).bind fun u3_ => some (u3_.1, u3_.2)
  else
  if (decide (u1_.2.1 = (['a', 'n', 'e', 'w'] : Ts))) = true then
  ((t_Maker_make_plain self)).bind fun (u4_ : OMaker) =>
  let u5_ : Bool := true
  some (([] : (List ((List (Ts × Ts × Ts × Int)) × Ts))), { u4_ with stale := u5_ })
  else
  ((if self.stale = true then
  let u6_ : (List (Ts × Ts × Ts × Int)) := ([] : (List (Ts × Ts × Ts × Int)))
  let u7_ : Bool := false
  some ({ { self with row := u6_ } with stale := u7_ })
  else
  some self : Option OMaker)).bind fun (s8_ : OMaker) =>
  if (decide (u1_.2.1 = (['s', 'i', 'g', 'n'] : Ts))) = true then
  ((t_Maker_put_sign_b s8_ u1_.2.2 u1_.1)).bind fun u9_ => some (u9_.1, u9_.2)
  else
  ((if (decide (u1_.2.1 = (['i', 'n', 'k'] : Ts))) = true then
  let u10_ : Ts := u1_.2.2
  some ({ s8_ with ink := u10_ })
  else
  ((if (decide (u1_.2.1 = (['g', 'r', 'o', 'u', 'n', 'd'] : Ts))) = true then
  let u11_ : Ts := u1_.2.2
  some ({ s8_ with ground := u11_ })
  else
  ((t_Maker_make_plain s8_)).bind fun (u12_ : OMaker) =>
  some u12_ : Option OMaker)).bind fun (s13_ : OMaker) =>
  some s13_ : Option OMaker)).bind fun (s14_ : OMaker) =>
  some (([] : (List ((List (Ts × Ts × Ts × Int)) × Ts))), s14_)
def t_lw_parts (items_here : (List (Int × Ts × Ts))) (most : Int) : Option ((List ((List (Ts × Ts × Ts × Int)) × Ts)) × (List (Ts × Ts × Ts × Int))) :=
  let parts_here : (List ((List (Ts × Ts × Ts × Int)) × Ts)) := ([] : (List ((List (Ts × Ts × Ts × Int)) × Ts)))
  let row : (List (Ts × Ts × Ts × Int)) := ([] : (List (Ts × Ts × Ts × Int)))
  let stale : Bool := false
  let colours : (List Ts) := ([(['.'] : Ts), (['.'] : Ts)] : (List Ts))
  (foldT (fun (s1_ : ((List ((List (Ts × Ts × Ts × Int)) × Ts)) × (List (Ts × Ts × Ts × Int)) × Bool × (List Ts))) (x2_ : (Int × Ts × Ts)) =>
  ((if (s1_.2.2.1 && ((!decide (x2_.2.1 = (['e', 'n', 'd'] : Ts))) && (!decide (x2_.2.1 = (['a', 'n', 'e', 'w'] : Ts))))) = true then
  let row : (List (Ts × Ts × Ts × Int)) := ([] : (List (Ts × Ts × Ts × Int)))
  let stale : Bool := false
  some (row, stale)
  else
  some (s1_.2.1, s1_.2.2.1) : Option ((List (Ts × Ts × Ts × Int)) × Bool))).bind fun (s3_ : ((List (Ts × Ts × Ts × Int)) × Bool)) =>
  ((if (decide (x2_.2.1 = (['s', 'i', 'g', 'n'] : Ts))) = true then
  ((if (decide ((List.length s3_.1 : Int) = most)) = true then
  ((appT s1_.1 (s3_.1, (['m', 'o', 'r', 'e'] : Ts)))).bind fun (u4_ : (List ((List (Ts × Ts × Ts × Int)) × Ts))) =>
  let row : (List (Ts × Ts × Ts × Int)) := ([] : (List (Ts × Ts × Ts × Int)))
  some (u4_, row)
  else
  some (s1_.1, s3_.1) : Option ((List ((List (Ts × Ts × Ts × Int)) × Ts)) × (List (Ts × Ts × Ts × Int))))).bind fun (s5_ : ((List ((List (Ts × Ts × Ts × Int)) × Ts)) × (List (Ts × Ts × Ts × Int)))) =>
  (((((atI s1_.2.2.2 (0 : Int)).bind fun v6_ => (atI s1_.2.2.2 (1 : Int)).bind fun v7_ => some (x2_.2.2, v6_, v7_, x2_.1)).bind fun v8_ => some ([v8_] : (List (Ts × Ts × Ts × Int)))).bind fun v9_ => (catL s5_.2 v9_))).bind fun (row : (List (Ts × Ts × Ts × Int))) =>
  some (s5_.1, row, s1_.2.2.2)
  else
  ((if (decide (x2_.2.1 = (['i', 'n', 'k'] : Ts))) = true then
  (some x2_.2.2).bind fun u10_ => ((some (0 : Int))).bind fun i11_ => (setT s1_.2.2.2 i11_ u10_).bind fun y12_ =>
  some y12_
  else
  ((if (decide (x2_.2.1 = (['g', 'r', 'o', 'u', 'n', 'd'] : Ts))) = true then
  (some x2_.2.2).bind fun u13_ => ((some (1 : Int))).bind fun i14_ => (setT s1_.2.2.2 i14_ u13_).bind fun y15_ =>
  some y15_
  else
  let colours : (List Ts) := ([(['.'] : Ts), (['.'] : Ts)] : (List Ts))
  some colours : Option (List Ts))).bind fun (s16_ : (List Ts)) =>
  some s16_ : Option (List Ts))).bind fun (s17_ : (List Ts)) =>
  some (s1_.1, s3_.1, s17_) : Option ((List ((List (Ts × Ts × Ts × Int)) × Ts)) × (List (Ts × Ts × Ts × Int)) × (List Ts)))).bind fun (s18_ : ((List ((List (Ts × Ts × Ts × Int)) × Ts)) × (List (Ts × Ts × Ts × Int)) × (List Ts))) =>
  ((if (decide (x2_.2.1 = (['a', 'n', 'e', 'w'] : Ts))) = true then
  let stale : Bool := true
  some stale
  else
  some s3_.2 : Option Bool)).bind fun (s19_ : Bool) =>
  ((if (decide (x2_.2.1 = (['e', 'n', 'd'] : Ts))) = true then
  ((appT s18_.1 (s18_.2.1, (['w', 'h', 'o', 'l', 'e'] : Ts)))).bind fun (u20_ : (List ((List (Ts × Ts × Ts × Int)) × Ts))) =>
  let row : (List (Ts × Ts × Ts × Int)) := ([] : (List (Ts × Ts × Ts × Int)))
  let stale : Bool := false
  some (u20_, row, stale)
  else
  some (s18_.1, s18_.2.1, s19_) : Option ((List ((List (Ts × Ts × Ts × Int)) × Ts)) × (List (Ts × Ts × Ts × Int)) × Bool))).bind fun (s21_ : ((List ((List (Ts × Ts × Ts × Int)) × Ts)) × (List (Ts × Ts × Ts × Int)) × Bool)) =>
  some (s21_.1, s21_.2.1, s21_.2.2, s18_.2.2)) items_here (parts_here, row, stale, colours)).bind fun (s1_ : ((List ((List (Ts × Ts × Ts × Int)) × Ts)) × (List (Ts × Ts × Ts × Int)) × Bool × (List Ts))) =>
  some (s1_.1, s1_.2.1)
end OW

namespace OW
open PySem L2 LI
end OW

namespace OW
open PySem L2 LI
end OW

namespace OW
open PySem L2 LI
end OW

namespace OW
open PySem L2 LI
end OW

namespace OW
open PySem L2 LI
end OW

namespace OW
open PySem L2 LI
end OW

namespace OW
open PySem L2 LI
end OW

namespace OW
open PySem L2 LI
end OW

namespace OW
open PySem L2 LI
end OW

namespace OW
open PySem L2 LI

def cols : Ts := ['a', 'b', 'c', 'd', 'e', 'f', 'g', 'h', '.']
def isCol (c : Char) : Bool := decide (c ∈ cols)
def isSg (c : Char) : Bool := decide (32 ≤ c.toNat) && decide (c.toNat ≤ 125)
def okC (c : Char) : Bool := isSg c || decide (c = '\n') || decide (c = '\t')
abbrev Im := Int × Ts × Ts
def kSign : Ts := ['s', 'i', 'g', 'n']
def kInk : Ts := ['i', 'n', 'k']
def kGround : Ts := ['g', 'r', 'o', 'u', 'n', 'd']
def kPlain : Ts := ['p', 'l', 'a', 'i', 'n']
def kEnd : Ts := ['e', 'n', 'd']
def kAnew : Ts := ['a', 'n', 'e', 'w']
def sgI (c : Char) : Ts × Ts := if c = '\n' then (kEnd, []) else if c = '\t' then (kAnew, []) else (kSign, [c])
def isColO : Option Char → Bool
  | some c => isCol c
  | none => false
def stp (s : Ts) : (Ts × Ts) × Nat :=
  if s[0]? = some '[' then
    if s[1]? = some ']' then ((kPlain, []), 2)
    else if s[1]? = some '[' then ((kSign, ['[']), 2)
    else if isColO s[1]? = true ∧ s[2]? = some ']' then ((kInk, [s[1]?.getD ' ']), 3)
    else if s[1]? = some '/' ∧ isColO s[2]? = true ∧ s[3]? = some ']' then ((kGround, [s[2]?.getD ' ']), 4)
    else ((kSign, ['[']), 1)
  else (sgI (s[0]?.getD ' '), 1)
def hld (s : Ts) : Bool := decide (s[0]? = some '[') && (decide (s.length = 1) || (decide (s.length = 2) && (decide (s[1]? = some '/') || isColO s[1]?)) || (decide (s.length = 3) && decide (s[1]? = some '/') && isColO s[2]?))
theorem stp_pos (s : Ts) : 0 < (stp s).2 := by
  unfold stp
  repeat' split
  all_goals simp
theorem stp_le {s : Ts} (h : s ≠ []) : (stp s).2 ≤ s.length := by
  rcases s with _ | ⟨a, _ | ⟨b, _ | ⟨c, _ | ⟨d, s⟩⟩⟩⟩
  · exact absurd rfl h
  all_goals
    unfold stp
    simp [isColO]
    repeat' split
    all_goals simp
    all_goals omega
def its (p : Int) (s : Ts) : List Im :=
  if h : s = [] then [] else (p, (stp s).1.1, (stp s).1.2) :: its (p + (stp s).2) (s.drop (stp s).2)
termination_by s.length
decreasing_by
  have := stp_pos s
  have : 0 < s.length := List.length_pos_iff.mpr h
  rw [List.length_drop]; omega
def sure (p : Int) (s : Ts) : List Im × Ts :=
  if h : s = [] then ([], []) else if hld s = true then ([], s) else ((p, (stp s).1.1, (stp s).1.2) :: (sure (p + (stp s).2) (s.drop (stp s).2)).1, (sure (p + (stp s).2) (s.drop (stp s).2)).2)
termination_by s.length
decreasing_by
  all_goals
    have := stp_pos s
    have : 0 < s.length := List.length_pos_iff.mpr h
    rw [List.length_drop]; omega
theorem its_nil (p : Int) : its p [] = [] := by rw [its]; simp
theorem its_cons {p : Int} {s : Ts} (h : s ≠ []) : its p s = (p, (stp s).1.1, (stp s).1.2) :: its (p + (stp s).2) (s.drop (stp s).2) := by rw [its, dif_neg h]
theorem sure_nil (p : Int) : sure p [] = ([], []) := by rw [sure]; simp
theorem sure_hld {p : Int} {s : Ts} (h : hld s = true) : sure p s = ([], s) := by
  rw [sure]
  by_cases hs : s = []
  · subst hs; cases h
  · rw [dif_neg hs, if_pos h]
theorem sure_cons {p : Int} {s : Ts} (h : s ≠ []) (h2 : hld s = false) : sure p s = ((p, (stp s).1.1, (stp s).1.2) :: (sure (p + (stp s).2) (s.drop (stp s).2)).1, (sure (p + (stp s).2) (s.drop (stp s).2)).2) := by
  rw [sure, dif_neg h, if_neg (by rw [h2]; exact Bool.false_ne_true)]
theorem hld_cases {K : Ts} (h : hld K = true) : K = ['['] ∨ K = ['[', '/'] ∨ (∃ k, isCol k = true ∧ K = ['[', k]) ∨ (∃ k, isCol k = true ∧ K = ['[', '/', k]) := by
  rcases K with _ | ⟨a, _ | ⟨b, _ | ⟨c, _ | ⟨d, s⟩⟩⟩⟩ <;> simp [hld, isColO] at h ⊢
  · exact h
  · obtain ⟨rfl, h | h⟩ := h <;> simp [h]
  · obtain ⟨⟨rfl, rfl⟩, h⟩ := h
    simp [h]
theorem col_ne {c : Char} (h : isCol c = true) : c ≠ '[' ∧ c ≠ ']' ∧ c ≠ '/' ∧ c ≠ '\n' ∧ c ≠ '\t' := by
  unfold isCol cols at h
  simp at h
  rcases h with rfl | rfl | rfl | rfl | rfl | rfl | rfl | rfl | rfl <;> decide
theorem stp_other {c : Char} {s : Ts} (h : c ≠ '[') : stp (c :: s) = (sgI c, 1) := by
  simp [stp, h]
theorem stp_app {s t : Ts} (h : s ≠ []) (hh : hld s = false) : stp (s ++ t) = stp s := by
  rcases s with _ | ⟨a, _ | ⟨b, _ | ⟨c, _ | ⟨d, s⟩⟩⟩⟩
  · exact absurd rfl h
  · simp [hld] at hh
    simp [stp, hh]
  · by_cases ha : a = '['
    · subst ha
      simp [hld, isColO] at hh
      simp [stp, isColO, hh]
    · simp [stp, ha]
  · by_cases ha : a = '['
    · subst ha
      simp [hld, isColO] at hh
      simp [stp, isColO]
      by_cases hb : b = '/'
      · simp [hh hb]
      · simp [hb]
    · simp [stp, ha]
  · simp [stp]
theorem hld_len {s : Ts} (h : hld s = true) : s.length ≤ 3 ∧ s ≠ [] := by
  rcases hld_cases h with rfl | rfl | ⟨k, _, rfl⟩ | ⟨k, _, rfl⟩ <;> simp
theorem sure_app : ∀ (n : Nat) (p : Int) (s t : Ts), s.length ≤ n → sure p (s ++ t) = ((sure p s).1 ++ (sure (p + s.length - (sure p s).2.length) ((sure p s).2 ++ t)).1, (sure (p + s.length - (sure p s).2.length) ((sure p s).2 ++ t)).2) := by
  intro n
  induction n with
  | zero =>
    intro p s t h
    have : s = [] := List.length_eq_zero_iff.mp (by omega)
    subst this
    simp [sure_nil]
  | succ n ih =>
    intro p s t h
    by_cases hs : s = []
    · subst hs; simp [sure_nil]
    · cases hh : hld s with
      | true =>
        rw [sure_hld hh]
        have : p + (s.length : Int) - (s.length : Int) = p := by omega
        simp [this]
      | false =>
        have hn : 0 < s.length := List.length_pos_iff.mpr hs
        have hp := stp_pos s
        have hl := stp_le hs
        have hst := stp_app (t := t) hs hh
        have hne : s ++ t ≠ [] := by simp [hs]
        have hhd : t = [] ∨ hld (s ++ t) = false := by
          by_cases ht : t = []
          · exact .inl ht
          · right
            cases hq : hld (s ++ t) with
            | false => rfl
            | true =>
              exfalso
              rcases hld_cases hq with e | e | ⟨k, hk, e⟩ | ⟨k, hk, e⟩
              all_goals
                rcases s with _ | ⟨a, _ | ⟨b, _ | ⟨c, s⟩⟩⟩ <;> simp_all [hld, isColO]
        rcases hhd with rfl | hhd
        · rw [List.append_nil, List.append_nil]
          have idem : ∀ (m : Nat) (q : Int) (u : Ts), u.length ≤ m → sure (q + u.length - (sure q u).2.length) (sure q u).2 = ([], (sure q u).2) := by
            intro m
            induction m with
            | zero =>
              intro q u hu
              have : u = [] := List.length_eq_zero_iff.mp (by omega)
              subst this; simp [sure_nil]
            | succ m ihm =>
              intro q u hu
              by_cases hu0 : u = []
              · subst hu0; simp [sure_nil]
              · cases hhu : hld u with
                | true => rw [sure_hld hhu]; simp [sure_hld hhu]
                | false =>
                  have hpu := stp_pos u
                  have hlu := stp_le hu0
                  have := ihm (q + (stp u).2) (u.drop (stp u).2) (by rw [List.length_drop]; omega)
                  rw [sure_cons hu0 hhu]
                  have e : q + (stp u).2 + ((u.drop (stp u).2).length : Int) = q + u.length := by rw [List.length_drop]; omega
                  rw [e] at this
                  exact this
          rw [idem s.length p s (Nat.le_refl _)]
          simp
        · rw [sure_cons hne hhd, sure_cons hs hh, hst]
          have hd : (s ++ t).drop (stp s).2 = s.drop (stp s).2 ++ t := by rw [List.drop_append_of_le_length hl]
          rw [hd, ih (p + (stp s).2) (s.drop (stp s).2) t (by rw [List.length_drop]; omega)]
          have e : p + (stp s).2 + ((s.drop (stp s).2).length : Int) = p + s.length := by rw [List.length_drop]; omega
          rw [e]
          simp
theorem sure_rest : ∀ (n : Nat) (p : Int) (s : Ts), s.length ≤ n → (sure p s).2 = [] ∨ hld (sure p s).2 = true := by
  intro n
  induction n with
  | zero =>
    intro p s h
    have : s = [] := List.length_eq_zero_iff.mp (by omega)
    subst this; simp [sure_nil]
  | succ n ih =>
    intro p s h
    by_cases hs : s = []
    · subst hs; simp [sure_nil]
    · cases hh : hld s with
      | true => right; rw [sure_hld hh]; exact hh
      | false =>
        have hp := stp_pos s
        have hl := stp_le hs
        rw [sure_cons hs hh]
        exact ih _ _ (by rw [List.length_drop]; omega)
def each (p : Int) : Ts → List Im
  | [] => []
  | c :: s => (p, (sgI c).1, (sgI c).2) :: each (p + 1) s
theorem its_one {p : Int} {c : Char} (h : c ≠ '[') (s : Ts) : its p (c :: s) = (p, (sgI c).1, (sgI c).2) :: its (p + 1) s := by
  rw [its_cons (by simp), stp_other h]; simp
theorem its_hld {p : Int} {s : Ts} (h : hld s = true) : its p s = each p s := by
  rcases hld_cases h with rfl | rfl | ⟨k, hk, rfl⟩ | ⟨k, hk, rfl⟩
  · rw [its_cons (by simp)]; simp [stp, isColO, its_nil, each, sgI]
  · rw [its_cons (by simp)]; simp [stp, isColO, its_nil, each, sgI, its_one]
  · have := col_ne hk
    rw [its_cons (by simp)]; simp [stp, isColO, its_nil, each, sgI, its_one, this]
  · have := col_ne hk
    rw [its_cons (by simp)]; simp [stp, isColO, its_nil, each, sgI, its_one, this]
theorem its_sure : ∀ (n : Nat) (p : Int) (s : Ts), s.length ≤ n → its p s = (sure p s).1 ++ each (p + s.length - (sure p s).2.length) (sure p s).2 := by
  intro n
  induction n with
  | zero =>
    intro p s h
    have : s = [] := List.length_eq_zero_iff.mp (by omega)
    subst this; simp [sure_nil, its_nil, each]
  | succ n ih =>
    intro p s h
    by_cases hs : s = []
    · subst hs; simp [sure_nil, its_nil, each]
    · cases hh : hld s with
      | true =>
        rw [sure_hld hh, its_hld hh]
        have : p + (s.length : Int) - (s.length : Int) = p := by omega
        simp [this]
      | false =>
        have hp := stp_pos s
        have hl := stp_le hs
        rw [its_cons hs, sure_cons hs hh, ih _ (s.drop (stp s).2) (by rw [List.length_drop]; omega)]
        have e : p + (stp s).2 + ((s.drop (stp s).2).length : Int) = p + s.length := by rw [List.length_drop]; omega
        rw [e]; simp
theorem its_len : ∀ (n : Nat) (p : Int) (s : Ts), s.length ≤ n → (its p s).length ≤ s.length := by
  intro n
  induction n with
  | zero =>
    intro p s h
    have : s = [] := List.length_eq_zero_iff.mp (by omega)
    subst this; simp [its_nil]
  | succ n ih =>
    intro p s h
    by_cases hs : s = []
    · subst hs; simp [its_nil]
    · have hp := stp_pos s
      have hl := stp_le hs
      rw [its_cons hs, List.length_cons]
      have := ih (p + (stp s).2) (s.drop (stp s).2) (by rw [List.length_drop]; omega)
      rw [List.length_drop] at this; omega
end OW

namespace OW
open PySem L2 LI

theorem lim_lt {n : Nat} (h : n ≤ 4000000) : n ≤ LIM := h
theorem ltS_11 (a b : Char) : ltS [a] [b] = decide (a.toNat < b.toNat) := by
  unfold ltS
  simp [List.cons_lt_cons_iff]
theorem is_sign_1 (c : Char) : t_is_sign [c] = some (isSg c) := by
  unfold t_is_sign isSg
  simp [lenS, ltS_11]
  rw [Bool.eq_iff_iff]; simp
theorem is_colour_1 (c : Char) : t_is_colour [c] = some (isCol c) := by
  unfold t_is_colour isCol cols
  simp [lenS]
theorem checked_ok {s : Ts} (h : ∀ c ∈ s, okC c = true) : t_checked s = some () := by
  unfold t_checked
  simp only [Bool.not_true, Bool.false_eq_true, if_false]
  have : ∀ (n : Nat) (s : Ts), (∀ c ∈ s, okC c = true) → foldT (fun (s1 : Unit) (x2 : Int × Ts) => ((((t_is_sign x2.2).bind fun v3 => some (!v3)).bind fun v4 => (if v4 = true then ((inS x2.2 ['\n', '\t']).bind fun k => some (!k)) else some false)).bind fun v5 => if v5 = true then none else some ())) (enumT n (chars s)) () = some () := by
    intro n s
    induction s generalizing n with
    | nil => intro _; rfl
    | cons c s ih =>
      intro h
      have hc := h c (by simp)
      show foldT _ (((n : Int), [c]) :: enumT (n + 1) (chars s)) () = _
      rw [foldT_cons]
      simp only [is_sign_1, Option.bind_some, inS_1]
      have e : (if (!isSg c) = true then some (!decide (c ∈ ['\n', '\t'])) else some false) = some false := by
        unfold okC at hc
        cases hs : isSg c with
        | true => simp
        | false =>
          rw [hs] at hc
          simp at hc ⊢
          intro h; rcases hc with q | q
          · exact absurd q h
          · exact q
      rw [e]
      simp only [Option.bind_some, Bool.false_eq_true, if_false]
      exact ih (n + 1) fun d hd => h d (by simp [hd])
  have h2 := this 0 s h
  rw [h2]; rfl
theorem sign_item_1 (p : Int) (c : Char) : t_sign_item p [c] = some (p, (sgI c).1, (sgI c).2) := by
  unfold t_sign_item kt_ENDS sgI
  by_cases h1 : c = '\n'
  · subst h1; rfl
  · by_cases h2 : c = '\t'
    · subst h2; rfl
    · have e1 : ¬ '\n' = c := fun e => h1 e.symm
      have e2 : ¬ '\t' = c := fun e => h2 e.symm
      simp [kdS, h1, h2, e1, e2, kSign]
theorem each_len : ∀ (p : Int) (s : Ts), (each p s).length = s.length
  | _, [] => rfl
  | p, c :: s => by simp [each, each_len (p + 1) s]
theorem told_eq (K : Ts) (p : Int) (n : Nat) (hn : n ≤ K.length) (hK : K.length ≤ LIM) : t_Reader_told ⟨K, p⟩ (n : Int) = some (each p (K.take n), ⟨K.drop n, p + n⟩) := by
  unfold t_Reader_told
  dsimp only
  rw [slS_ok hK, Option.bind_some, cut_to (by omega), Option.bind_some, Int.toNat_natCast]
  have main : ∀ (s : Ts) (q : Int) (acc : List Im), acc.length + s.length ≤ LIM → foldT (fun (s2 : OReader × (List (Int × Ts × Ts))) (sign : Ts) => (((t_sign_item s2.1.place sign).bind fun v3 => (appT s2.2 v3))).bind fun u4 => some ({ s2.1 with place := s2.1.place + (1 : Int) }, u4)) (chars s) (⟨K, q⟩, acc) = some (⟨K, q + s.length⟩, acc ++ each q s) := by
    intro s
    induction s with
    | nil => intro q acc _; simp [chars, each]
    | cons c s ih =>
      intro q acc h
      show foldT _ ([c] :: chars s) _ = _
      rw [foldT_cons, sign_item_1, Option.bind_some, appT_ok (by simp at h ⊢; omega), Option.bind_some]
      simp only [Option.bind_some]
      rw [ih (q + 1) _ (by simp at h ⊢; omega)]
      simp [each]
      omega
  have h2 := main (K.take n) p [] (by rw [List.length_take]; simp; omega)
  rw [h2, Option.bind_some, slS_ok hK, Option.bind_some, cut_from (by omega), Int.toNat_natCast]
  have e : (List.take n K).length = n := by rw [List.length_take]; omega
  rw [e]; simp
theorem take_eq (K : Ts) (p : Int) (c : Char) (hK : K = [] ∨ hld K = true) : t_Reader_take ⟨K, p⟩ [c] = some ((sure p (K ++ [c])).1, ⟨(sure p (K ++ [c])).2, p + K.length + 1 - (sure p (K ++ [c])).2.length⟩) := by
  have tl : ∀ (K : Ts) (n : Nat), n ≤ K.length → K.length ≤ 4 → t_Reader_told ⟨K, p⟩ (n : Int) = some (each p (K.take n), ⟨K.drop n, p + n⟩) := fun K n h1 h2 => told_eq K p n h1 (lim_lt (by omega))
  have t1 : ∀ q : Int, t_Reader_told ⟨[c], q⟩ 1 = some (each q [c], ⟨[], q + 1⟩) := fun q => by
    have := told_eq [c] q 1 (by simp) (lim_lt (by simp))
    exact this
  have sg : ∀ q : Int, c ≠ '[' → sure q [c] = ([(q, (sgI c).1, (sgI c).2)], []) := fun q hc => by
    rw [sure_cons (by simp) (by simp [hld, hc]), stp_other hc]
    simp [sure_nil]
  have sb : ∀ q : Int, sure q ['['] = ([], ['[']) := fun q => sure_hld (by decide)
  unfold t_Reader_take
  dsimp only
  rcases hK with rfl | hK
  · -- nothing is held
    by_cases hb : c = '['
    · subst hb
      rw [List.nil_append, sb]
      simp [catS, t_mark_item, t_begins_mark, memT, lenS]
    · have h0 : t_Reader_told ⟨([] : Ts), p⟩ 0 = some ([], ⟨[], p⟩) := by simpa [each] using tl [] 0 (by simp) (by simp)
      rw [List.nil_append, sg p hb]
      simp [catS, t_mark_item, t_begins_mark, memT, lenS, h0, hb, t1, each, catL]
  · have one : ∀ (q : Int) (d : Char) (r : Ts), d ≠ '[' → sure q (d :: r) = ((q, (sgI d).1, (sgI d).2) :: (sure (q + 1) r).1, (sure (q + 1) r).2) := fun q d r hd => by
      rw [sure_cons (by simp) (by simp [hld, hd]), stp_other hd]; simp
    have br : ∀ (q : Int) (r : Ts), hld ('[' :: r) = false → stp ('[' :: r) = ((kSign, ['[']), 1) → sure q ('[' :: r) = ((q, kSign, ['[']) :: (sure (q + 1) r).1, (sure (q + 1) r).2) := fun q r h1 h2 => by
      rw [sure_cons (by simp) h1, h2]; simp
    have hsl : isCol '/' = false := by decide
    have cl : ∀ d : Char, t_is_colour [d] = some (isCol d) := is_colour_1
    rcases hld_cases hK with rfl | rfl | ⟨k, hk, rfl⟩ | ⟨k, hk, rfl⟩
    · have h1 := tl ['['] 1 (by simp) (by simp)
      simp [each] at h1
      by_cases c1 : c = ']'
      · subst c1
        rw [show (['['] ++ [']'] : Ts) = ['[', ']'] from rfl, sure_cons (by simp) (by decide)]
        simp [stp, sure_nil, catS, LIM, t_mark_item, lenS, kPlain]
        all_goals omega
      · by_cases c2 : c = '['
        · subst c2
          rw [show (['['] ++ ['['] : Ts) = ['[', '['] from rfl, sure_cons (by simp) (by decide)]
          simp [stp, sure_nil, catS, LIM, t_mark_item, lenS, kSign]
          all_goals omega
        · by_cases c3 : c = '/'
          · subst c3
            rw [show (['['] ++ ['/'] : Ts) = ['[', '/'] from rfl, sure_hld (by decide)]
            simp [catS, LIM, t_mark_item, t_begins_mark, memT, lenS]
            all_goals omega
          · cases c4 : isCol c with
            | true =>
              rw [show (['['] ++ [c] : Ts) = ['[', c] from rfl, sure_hld (by simp [hld, isColO, c4])]
              simp [catS, LIM, t_mark_item, t_begins_mark, memT, lenS, ixS, c1, c2, c3, cl, c4]
              all_goals omega
            | false =>
              rw [show (['['] ++ [c] : Ts) = ['[', c] from rfl, br p [c] (by simp [hld, isColO, c3, c4]) (by simp [stp, isColO, c1, c2]), sg _ c2]
              simp [catS, catL, LIM, t_mark_item, t_begins_mark, memT, lenS, ixS, c1, c2, c3, cl, c4, h1, t1, each, sgI, kSign]
              all_goals omega
    · have h1 := tl ['[', '/'] 2 (by simp) (by simp)
      simp [each] at h1
      cases c4 : isCol c with
      | true =>
        rw [show (['[', '/'] ++ [c] : Ts) = ['[', '/', c] from rfl, sure_hld (by simp [hld, isColO, c4])]
        have := col_ne c4
        simp [catS, LIM, t_mark_item, t_begins_mark, memT, lenS, ixS, slS, cut_to, cl, c4, this, hsl]
        all_goals omega
      | false =>
        rw [show (['[', '/'] ++ [c] : Ts) = ['[', '/', c] from rfl, br p ['/', c] (by simp [hld, isColO, c4]) (by simp [stp, isColO, isCol, cols]), one _ _ _ (by decide)]
        by_cases c2 : c = '['
        · subst c2
          rw [sb]
          simp [catS, catL, LIM, t_mark_item, t_begins_mark, memT, lenS, ixS, slS, cut_to, cl, c4, h1, t1, each, sgI, kSign, hsl]
          all_goals omega
        · rw [sg _ c2]
          simp [catS, catL, LIM, t_mark_item, t_begins_mark, memT, lenS, ixS, slS, cut_to, cl, c4, h1, t1, each, c2, sgI, kSign, hsl]
          all_goals omega
    · have hn := col_ne hk
      have h1 := tl ['[', k] 2 (by simp) (by simp)
      simp [each] at h1
      by_cases c1 : c = ']'
      · subst c1
        rw [show (['[', k] ++ [']'] : Ts) = ['[', k, ']'] from rfl, sure_cons (by simp) (by simp [hld, isColO, hn])]
        simp [stp, sure_nil, isColO, hn, hk, catS, LIM, t_mark_item, lenS, ixS, cl, kInk]
        all_goals omega
      · rw [show (['[', k] ++ [c] : Ts) = ['[', k, c] from rfl, br p [k, c] (by simp [hld, isColO, hn]) (by simp [stp, isColO, hn, c1]), one _ _ _ hn.1]
        by_cases c2 : c = '['
        · subst c2
          rw [sb]
          simp [catS, catL, LIM, t_mark_item, t_begins_mark, memT, lenS, ixS, slS, cut_to, cl, hk, h1, t1, each, hn, sgI, kSign]
          all_goals omega
        · rw [sg _ c2]
          simp [catS, catL, LIM, t_mark_item, t_begins_mark, memT, lenS, ixS, slS, cut_to, cl, hk, h1, t1, each, hn, c1, c2, sgI, kSign]
          all_goals omega
    · have hn := col_ne hk
      have h1 := tl ['[', '/', k] 3 (by simp) (by simp)
      simp [each] at h1
      by_cases c1 : c = ']'
      · subst c1
        rw [show (['[', '/', k] ++ [']'] : Ts) = ['[', '/', k, ']'] from rfl, sure_cons (by simp) (by simp [hld])]
        simp [stp, sure_nil, isColO, hn, hk, catS, LIM, t_mark_item, lenS, ixS, slS, cut_to, cl, kGround]
        all_goals omega
      · rw [show (['[', '/', k] ++ [c] : Ts) = ['[', '/', k, c] from rfl, br p ['/', k, c] (by simp [hld]) (by simp [stp, isColO, hn, c1]), one _ _ _ (by decide), one _ _ _ hn.1]
        by_cases c2 : c = '['
        · subst c2
          rw [sb]
          simp [catS, catL, LIM, t_mark_item, t_begins_mark, memT, lenS, ixS, slS, cut_to, cl, hk, h1, t1, each, hn, sgI, kSign]
          all_goals omega
        · rw [sg _ c2]
          simp [catS, catL, LIM, t_mark_item, t_begins_mark, memT, lenS, ixS, slS, cut_to, cl, hk, h1, t1, each, hn, c1, c2, sgI, kSign]
          all_goals omega
theorem sure_len : ∀ (n : Nat) (p : Int) (s : Ts), s.length ≤ n → (sure p s).1.length + (sure p s).2.length ≤ s.length := by
  intro n
  induction n with
  | zero =>
    intro p s h
    have : s = [] := List.length_eq_zero_iff.mp (by omega)
    subst this; simp [sure_nil]
  | succ n ih =>
    intro p s h
    by_cases hs : s = []
    · subst hs; simp [sure_nil]
    · cases hh : hld s with
      | true => rw [sure_hld hh]; simp
      | false =>
        have hp := stp_pos s
        have hl := stp_le hs
        have := ih (p + (stp s).2) (s.drop (stp s).2) (by rw [List.length_drop]; omega)
        rw [List.length_drop] at this
        rw [sure_cons hs hh, List.length_cons]
        dsimp only
        omega
theorem feed_eq (K : Ts) (p : Int) (s : Ts) (hK : K = [] ∨ hld K = true) (hs : ∀ c ∈ s, okC c = true) (hl : s.length ≤ 900000) : t_Reader_feed ⟨K, p⟩ s = some ((sure p (K ++ s)).1, ⟨(sure p (K ++ s)).2, p + K.length + s.length - (sure p (K ++ s)).2.length⟩) := by
  unfold t_Reader_feed
  rw [checked_ok hs, Option.bind_some]
  dsimp only
  have main : ∀ (s : Ts) (K : Ts) (q : Int) (acc : List Im), (K = [] ∨ hld K = true) → acc.length + K.length + s.length ≤ 990000 →
      foldT (fun (s2 : OReader × (List (Int × Ts × Ts))) (sign : Ts) => (((t_Reader_take s2.1 sign).bind fun r4 => (catL s2.2 r4.1).bind fun z5 => some (r4, z5))).bind fun u6 => some (u6.1.2, u6.2)) (chars s) (⟨K, q⟩, acc) = some (⟨(sure q (K ++ s)).2, q + K.length + s.length - (sure q (K ++ s)).2.length⟩, acc ++ (sure q (K ++ s)).1) := by
    intro s
    induction s with
    | nil =>
      intro K q acc hK _
      have : sure q K = ([], K) := by
        rcases hK with rfl | hK
        · exact sure_nil q
        · exact sure_hld hK
      simp [chars, this]
      try omega
    | cons c s ih =>
      intro K q acc hK h
      have hlen := sure_len _ q (K ++ [c]) (Nat.le_refl _)
      have hr := sure_rest _ q (K ++ [c]) (Nat.le_refl _)
      have happ := sure_app _ q (K ++ [c]) s (Nat.le_refl _)
      rw [List.length_append, List.length_singleton] at hlen
      have hq : ((K ++ [c]).length : Int) = K.length + 1 := by simp
      rw [hq] at happ
      rw [List.append_assoc, List.singleton_append] at happ
      show foldT _ ([c] :: chars s) _ = _
      rw [foldT_cons, take_eq K q c hK, Option.bind_some]
      dsimp only
      have eq1 : q + ((K.length : Int) + 1) - ((sure q (K ++ [c])).2.length : Int) = q + K.length + 1 - (sure q (K ++ [c])).2.length := by omega
      rw [eq1] at happ
      rw [happ]
      generalize sure q (K ++ [c]) = R at *
      rw [List.length_cons] at h
      rw [catL_ok (by unfold LIM; omega), Option.bind_some, Option.bind_some, Option.bind_some]
      dsimp only
      rw [ih R.2 _ (acc ++ R.1) hr (by rw [List.length_append]; omega)]
      rw [List.append_assoc, List.length_cons]
      have eq2 : q + (K.length : Int) + 1 - (R.2.length : Int) + (R.2.length : Int) + (s.length : Int) = q + K.length + ((s.length + 1 : Nat) : Int) := by omega
      rw [eq2]
  have hK4 : K.length ≤ 3 := by
    rcases hK with rfl | hK
    · simp
    · exact (hld_len hK).1
  rw [main s K p [] hK (by simp; omega), Option.bind_some]
  simp
theorem finish_eq (K : Ts) (p : Int) (hl : K.length ≤ 900000) : t_Reader_finish ⟨K, p⟩ = some (each p K, ⟨[], p + K.length⟩) := by
  unfold t_Reader_finish
  dsimp only
  rw [lenS_ok (lim_lt (by omega)), Option.bind_some, told_eq K p K.length (Nat.le_refl _) (lim_lt (by omega)), Option.bind_some]
  simp
theorem items_of_eq {s : Ts} (hs : ∀ c ∈ s, okC c = true) (hl : s.length ≤ 400000) : t_items_of s = some (its 0 s) := by
  unfold t_items_of t_Reader_init
  simp only [Option.bind_some]
  have hf := feed_eq [] 0 s (.inl rfl) hs (by omega)
  simp only [List.nil_append, List.length_nil] at hf
  rw [hf, Option.bind_some]
  have h1 := sure_len _ 0 s (Nat.le_refl _)
  have h2 := its_sure _ 0 s (Nat.le_refl _)
  rw [finish_eq _ _ (by omega), Option.bind_some, catL_ok (by dsimp only; rw [each_len]; unfold LIM; omega), Option.bind_some, Option.bind_some, h2]
  simp
theorem cell_eq (ns : List Int) (k : Nat) : t_lw_cell ns (k : Int) = some (ns.getD k 0) := by
  unfold t_lw_cell
  by_cases h : k < ns.length
  · simp [h, atI_nat h]
  · simp [h]
theorem mix_ex (c : Int) (k : Int) (h0 : 0 ≤ k) (hk : k ≤ 1000000) : ∃ v, t_lw_mix c k = some v ∧ 0 ≤ v ∧ v < 1000000000 := by
  unfold t_lw_mix
  by_cases hc : (1000000000000000000 : Int) < c
  · rw [if_pos (by simpa using hc)]
    dsimp only
    rw [rngT_ok (by omega) (by omega), Option.bind_some]
    obtain ⟨s, h1, _⟩ := foldT_inv (g := fun (s1 : Int) (turn : Int) => some (s1 / 1000000000)) (fun _ => True) ((List.range k.toNat).map fun (k : Nat) => (k : Int)) c trivial fun s x _ _ => ⟨_, rfl, trivial⟩
    rw [h1]
    exact ⟨_, rfl, by omega, by omega⟩
  · rw [if_neg (by simpa using hc)]
    dsimp only
    rw [rngT_ok (by omega) (by omega), Option.bind_some]
    obtain ⟨s, h1, h2, h3⟩ := foldT_inv (g := fun (s1 : Int) (turn : Int) => some ((s1 * 48271 + 104729) % 2147483629)) (fun s => 0 ≤ s ∧ s < 4294967296) ((List.range (k + 2).toNat).map fun (k : Nat) => (k : Int)) (c % 2147483647 + 7919) ⟨by omega, by omega⟩ fun s x _ _ => ⟨_, rfl, by omega, by omega⟩
    rw [h1, Option.bind_some, mulT_ok (by omega) (by omega), Option.bind_some, Option.bind_some]
    refine ⟨_, rfl, ?_⟩
    generalize s * s = z
    exact ⟨by omega, by omega⟩
end OW

namespace OW
open PySem L2 LI
theorem atI_all {α : Type} {xs : List α} {P : α → Prop} {i : Int} (h0 : 0 ≤ i) (h1 : i < (xs.length : Int)) (h : ∀ x ∈ xs, P x) : ∃ x, atI xs i = some x ∧ P x := by
  obtain ⟨x, h2, h3⟩ := atI_ok h0 h1
  exact ⟨x, h3, h x h2⟩
end OW

namespace OW
open PySem L2 LI
inductive GI : Ts → Ts → Prop
  | sign (c : Char) : isSg c = true → GI kSign [c]
  | ink (c : Char) : isCol c = true → GI kInk [c]
  | ground (c : Char) : isCol c = true → GI kGround [c]
  | plain : GI kPlain []
  | fin : GI kEnd []
  | anew : GI kAnew []
abbrev Lt := Ts × Ts × Ts × Int
abbrev Ls := List Lt
abbrev Pt := Ls × Ts
abbrev Ms := Ls × Bool × Ts × Ts
def dot : Ts := ['.']
def kMore : Ts := ['m', 'o', 'r', 'e']
def kWhole : Ts := ['w', 'h', 'o', 'l', 'e']
def mkS (most : Int) (s : Ms) (i : Im) : Ms × List Pt :=
  if i.2.1 = kAnew then ((s.1, true, dot, dot), [])
  else if i.2.1 = kEnd then (([], false, dot, dot), [(s.1, kWhole)])
  else
    let row : Ls := if s.2.1 = true then [] else s.1
    if i.2.1 = kSign then
      if (row.length : Int) = most then (([(i.2.2, s.2.2.1, s.2.2.2, i.1)], false, s.2.2.1, s.2.2.2), [(row, kMore)])
      else ((row ++ [(i.2.2, s.2.2.1, s.2.2.2, i.1)], false, s.2.2.1, s.2.2.2), [])
    else if i.2.1 = kInk then ((row, false, i.2.2, s.2.2.2), [])
    else if i.2.1 = kGround then ((row, false, s.2.2.1, i.2.2), [])
    else ((row, false, dot, dot), [])
def goS (g : Bool) (told : List Pt) : Bool := match told.getLast? with
  | some p => decide (p.2 = kMore)
  | none => g
def mkO (most : Int) (s : Ms) (g : Bool) : OMaker := ⟨most, s.1, s.2.2.1, s.2.2.2, s.2.1, g⟩
theorem mkS_len {most : Int} {s : Ms} {i : Im} (h1 : 1 ≤ most) (h : (s.1.length : Int) ≤ most) : ((mkS most s i).1.1.length : Int) ≤ most := by
  unfold mkS
  split
  · exact h
  · split
    · simp; omega
    · dsimp only
      have hr : (((if s.2.1 = true then [] else s.1) : Ls).length : Int) ≤ most := by
        split
        · simp; omega
        · exact h
      generalize (if s.2.1 = true then [] else s.1 : Ls) = row at hr ⊢
      split
      · split
        · simp; omega
        · simp; omega
      · split
        · exact hr
        · split <;> exact hr
theorem mkS_told (most : Int) (s : Ms) (i : Im) : (mkS most s i).2 = [] ∨ ∃ p, (mkS most s i).2 = [p] := by
  unfold mkS
  split
  · exact .inl rfl
  · split
    · exact .inr ⟨_, rfl⟩
    · dsimp only
      generalize (if s.2.1 = true then [] else s.1 : Ls) = row
      split
      · split
        · exact .inr ⟨_, rfl⟩
        · exact .inl rfl
      · split
        · exact .inl rfl
        · split <;> exact .inl rfl
theorem put_eq {most : Int} {s : Ms} {g : Bool} {i : Im} (h : GI i.2.1 i.2.2) (hm : most ≤ 200) (hl : (s.1.length : Int) ≤ most) :
    t_Maker_put (mkO most s g) i = some ((mkS most s i).2, mkO most (mkS most s i).1 (goS g (mkS most s i).2)) := by
  obtain ⟨p, k, v⟩ := i
  obtain ⟨row, stale, ink, ground⟩ := s
  dsimp only at h hl
  have hL : ∀ r : Ls, (r.length : Int) ≤ most → r.length < LIM := fun r hr => by unfold LIM; omega
  unfold t_Maker_put t_Maker_make_plain t_Maker_put_sign t_Maker_tell_part mkO
  cases h with
  | sign c hc =>
    cases stale with
    | true =>
      by_cases hz : (0 : Int) = most
      · subst hz; simp [kSign, kEnd, kAnew, mkS, goS, kMore, dot, appT, LIM]
      · simp [kSign, kEnd, kAnew, mkS, goS, kMore, dot, appT, LIM, hz]
    | false =>
      by_cases hz : (row.length : Int) = most
      · simp [kSign, kEnd, kAnew, mkS, goS, kMore, dot, appT, LIM, hz]
      · simp [kSign, kEnd, kAnew, mkS, goS, kMore, dot, hz, appT_ok (hL row hl)]
  | ink c hc => cases stale <;> simp [kSign, kEnd, kAnew, kInk, mkS, goS, dot]
  | ground c hc => cases stale <;> simp [kSign, kEnd, kAnew, kInk, kGround, mkS, goS, dot]
  | plain => cases stale <;> simp [kSign, kEnd, kAnew, kInk, kGround, kPlain, mkS, goS, dot]
  | fin => simp [kEnd, kAnew, mkS, goS, dot, kWhole, kMore]
  | anew => simp [kEnd, kAnew, mkS, goS, dot]
theorem letters_right_eq (xs : Ls) : t_lw_letters_right xs xs = some true := by
  unfold t_lw_letters_right t_lw_whole
  rw [forT_unit (xs := xs)]
  · simp
  · intro x hx
    rw [compT_map (f := fun _ => true) (by simp [LIM]) fun x _ => rfl]
    simp
theorem parts_right_eq (xs : List Pt) : t_lw_parts_right xs xs = some true := by
  unfold t_lw_parts_right
  rw [forT_unit (xs := List.zip xs xs)]
  · simp
  · intro x hx
    have h : x.1 = x.2 := by
      obtain ⟨i, hi, e⟩ := List.mem_iff_getElem.mp hx
      rw [← e]; simp
    obtain ⟨a, b⟩ := x
    cases h
    simp [letters_right_eq]
theorem init_mk {most : Int} (h1 : 1 ≤ most) (h2 : most ≤ 200) : t_Maker_init most = some (mkO most ([], false, dot, dot) false) := by
  unfold t_Maker_init t_checked_most
  simp [h1, h2, mkO, dot]
end OW

namespace OW
open PySem L2 LI
theorem sgI_GI {c : Char} (h : okC c = true) : GI (sgI c).1 (sgI c).2 := by
  unfold sgI
  split
  · exact .fin
  · rename_i h1
    split
    · exact .anew
    · rename_i h2
      unfold okC at h
      simp only [h1, h2, decide_false, Bool.or_false] at h
      exact .sign c h
theorem stp_GI {s : Ts} (hs : ∀ c ∈ s, okC c = true) (hn : s ≠ []) : GI (stp s).1.1 (stp s).1.2 := by
  have hq : ∀ (k : Nat) (c : Char), s[k]? = some c → okC c = true := fun k c h => hs c (List.mem_of_getElem? h)
  unfold stp
  split
  · split
    · exact .plain
    · split
      · exact .sign '[' (by decide)
      · split
        · rename_i h
          cases e : s[1]? with
          | none => rw [e] at h; cases h.1
          | some c => rw [e] at h; exact .ink c h.1
        · split
          · rename_i h
            cases e : s[2]? with
            | none => rw [e] at h; cases h.2.1
            | some c => rw [e] at h; exact .ground c h.2.1
          · exact .sign '[' (by decide)
  · cases e : s[0]? with
    | none =>
      rw [List.getElem?_eq_none_iff] at e
      exact absurd (List.eq_nil_of_length_eq_zero (by omega)) hn
    | some c => exact sgI_GI (hq 0 c e)
theorem its_GI : ∀ (n : Nat) (p : Int) (s : Ts), s.length ≤ n → (∀ c ∈ s, okC c = true) → ∀ i ∈ its p s, GI i.2.1 i.2.2
  | n, p, s, h, hs, i, hi => by
    by_cases h1 : s = []
    · subst h1; rw [its_nil] at hi; cases hi
    · have hp := stp_pos s
      cases n with
      | zero => exact absurd (List.eq_nil_of_length_eq_zero (by omega)) h1
      | succ n =>
        rw [its_cons h1] at hi
        rcases List.mem_cons.mp hi with rfl | hi
        · exact stp_GI hs h1
        · exact its_GI n _ _ (by rw [List.length_drop]; omega) (fun c hc => hs c (List.mem_of_mem_drop hc)) i hi
def mkA (most : Int) : Ms → List Im → Ms × List Pt
  | s, [] => (s, [])
  | s, i :: is => ((mkA most (mkS most s i).1 is).1, (mkS most s i).2 ++ (mkA most (mkS most s i).1 is).2)
theorem put_b_eq (s : OMaker) (i : Im) : t_Maker_put_b s i = t_Maker_put s i := rfl
theorem put_all {most : Int} (h1 : 1 ≤ most) (hm : most ≤ 200) : ∀ (is : List Im) (s : Ms) (g : Bool) (P : List Pt), (∀ i ∈ is, GI i.2.1 i.2.2) → (s.1.length : Int) ≤ most → P.length + is.length ≤ LIM →
    foldT (fun (s3_ : (OMaker × (List Pt))) (item : Im) =>
  (((t_Maker_put_b s3_.1 item).bind fun r4_ => (catL s3_.2 r4_.1).bind fun z5_ => some (r4_, z5_))).bind fun (u6_ : (((List Pt) × OMaker) × (List Pt))) =>
  some (u6_.1.2, u6_.2)) is (mkO most s g, P) = some (mkO most (mkA most s is).1 (goS g (mkA most s is).2), P ++ (mkA most s is).2) ∧ (((mkA most s is).1.1.length : Int) ≤ most)
  | [], s, g, P, hi, hl, hP => ⟨by simp [foldT, mkA, goS], hl⟩
  | i :: is, s, g, P, hi, hl, hP => by
    rw [List.length_cons] at hP
    have hs1 : (mkS most s i).2.length ≤ 1 := by
      rcases mkS_told most s i with h | ⟨p, h⟩ <;> rw [h] <;> simp
    have ih := put_all h1 hm is (mkS most s i).1 (goS g (mkS most s i).2) (P ++ (mkS most s i).2) (fun j hj => hi j (List.mem_cons_of_mem _ hj)) (mkS_len h1 hl) (by rw [List.length_append]; omega)
    have hg : goS (goS g (mkS most s i).2) (mkA most (mkS most s i).1 is).2 = goS g ((mkS most s i).2 ++ (mkA most (mkS most s i).1 is).2) := by
      unfold goS
      cases hb : (mkA most (mkS most s i).1 is).2.getLast? with
      | none =>
        rw [List.getLast?_eq_none_iff] at hb
        rw [hb, List.append_nil]
      | some p => rw [List.getLast?_append, hb]; rfl
    unfold foldT
    rw [put_b_eq, put_eq (hi i List.mem_cons_self) hm hl]
    simp only [Option.bind_some]
    rw [catL_ok (by omega)]
    simp only [Option.bind_some]
    refine ⟨?_, ih.2⟩
    rw [ih.1, hg, List.append_assoc]
    rfl
def s00 : Ms := ([], false, dot, dot)
theorem put_law {most : Int} (hm : most ≤ 200) {s : Ms} {i : Im} (h : GI i.2.1 i.2.2) (hl : (s.1.length : Int) ≤ most) {P : List Pt} (hP : P.length + 2 ≤ LIM) : ∀ (A : List Pt × Ls × Bool × List Ts → Option (List Pt × Ls × Bool × List Ts)), (A = fun s1_ =>
  ((if (s1_.2.2.1 && ((!decide (i.2.1 = (['e', 'n', 'd'] : Ts))) && (!decide (i.2.1 = (['a', 'n', 'e', 'w'] : Ts))))) = true then
  let row : (List (Ts × Ts × Ts × Int)) := ([] : (List (Ts × Ts × Ts × Int)))
  let stale : Bool := false
  some (row, stale)
  else
  some (s1_.2.1, s1_.2.2.1) : Option ((List (Ts × Ts × Ts × Int)) × Bool))).bind fun (s3_ : ((List (Ts × Ts × Ts × Int)) × Bool)) =>
  ((if (decide (i.2.1 = (['s', 'i', 'g', 'n'] : Ts))) = true then
  ((if (decide ((List.length s3_.1 : Int) = most)) = true then
  ((appT s1_.1 (s3_.1, (['m', 'o', 'r', 'e'] : Ts)))).bind fun (u4_ : (List ((List (Ts × Ts × Ts × Int)) × Ts))) =>
  let row : (List (Ts × Ts × Ts × Int)) := ([] : (List (Ts × Ts × Ts × Int)))
  some (u4_, row)
  else
  some (s1_.1, s3_.1) : Option ((List ((List (Ts × Ts × Ts × Int)) × Ts)) × (List (Ts × Ts × Ts × Int))))).bind fun (s5_ : ((List ((List (Ts × Ts × Ts × Int)) × Ts)) × (List (Ts × Ts × Ts × Int)))) =>
  (((((atI s1_.2.2.2 (0 : Int)).bind fun v6_ => (atI s1_.2.2.2 (1 : Int)).bind fun v7_ => some (i.2.2, v6_, v7_, i.1)).bind fun v8_ => some ([v8_] : (List (Ts × Ts × Ts × Int)))).bind fun v9_ => (catL s5_.2 v9_))).bind fun (row : (List (Ts × Ts × Ts × Int))) =>
  some (s5_.1, row, s1_.2.2.2)
  else
  ((if (decide (i.2.1 = (['i', 'n', 'k'] : Ts))) = true then
  (some i.2.2).bind fun u10_ => ((some (0 : Int))).bind fun i11_ => (setT s1_.2.2.2 i11_ u10_).bind fun y12_ =>
  some y12_
  else
  ((if (decide (i.2.1 = (['g', 'r', 'o', 'u', 'n', 'd'] : Ts))) = true then
  (some i.2.2).bind fun u13_ => ((some (1 : Int))).bind fun i14_ => (setT s1_.2.2.2 i14_ u13_).bind fun y15_ =>
  some y15_
  else
  let colours : (List Ts) := ([(['.'] : Ts), (['.'] : Ts)] : (List Ts))
  some colours : Option (List Ts))).bind fun (s16_ : (List Ts)) =>
  some s16_ : Option (List Ts))).bind fun (s17_ : (List Ts)) =>
  some (s1_.1, s3_.1, s17_) : Option ((List ((List (Ts × Ts × Ts × Int)) × Ts)) × (List (Ts × Ts × Ts × Int)) × (List Ts)))).bind fun (s18_ : ((List ((List (Ts × Ts × Ts × Int)) × Ts)) × (List (Ts × Ts × Ts × Int)) × (List Ts))) =>
  ((if (decide (i.2.1 = (['a', 'n', 'e', 'w'] : Ts))) = true then
  let stale : Bool := true
  some stale
  else
  some s3_.2 : Option Bool)).bind fun (s19_ : Bool) =>
  ((if (decide (i.2.1 = (['e', 'n', 'd'] : Ts))) = true then
  ((appT s18_.1 (s18_.2.1, (['w', 'h', 'o', 'l', 'e'] : Ts)))).bind fun (u20_ : (List ((List (Ts × Ts × Ts × Int)) × Ts))) =>
  let row : (List (Ts × Ts × Ts × Int)) := ([] : (List (Ts × Ts × Ts × Int)))
  let stale : Bool := false
  some (u20_, row, stale)
  else
  some (s18_.1, s18_.2.1, s19_) : Option ((List ((List (Ts × Ts × Ts × Int)) × Ts)) × (List (Ts × Ts × Ts × Int)) × Bool))).bind fun (s21_ : ((List ((List (Ts × Ts × Ts × Int)) × Ts)) × (List (Ts × Ts × Ts × Int)) × Bool)) =>
  some (s21_.1, s21_.2.1, s21_.2.2, s18_.2.2)) →
  A (P, s.1, s.2.1, [s.2.2.1, s.2.2.2]) = some (P ++ (mkS most s i).2, (mkS most s i).1.1, (mkS most s i).1.2.1, [(mkS most s i).1.2.2.1, (mkS most s i).1.2.2.2]) := by
  rintro A rfl
  obtain ⟨p, k, v⟩ := i
  obtain ⟨row, stale, ink, ground⟩ := s
  dsimp only at h hl
  have a0 : ∀ x y : Ts, atI [x, y] 0 = some x := fun _ _ => rfl
  have a1 : ∀ x y : Ts, atI [x, y] 1 = some y := fun _ _ => rfl
  have b0 : ∀ x y z : Ts, setT [x, y] 0 z = some [z, y] := fun _ _ _ => rfl
  have b1 : ∀ x y z : Ts, setT [x, y] 1 z = some [x, z] := fun _ _ _ => rfl
  have hap : ∀ x : Pt, appT P x = some (P ++ [x]) := fun x => appT_ok (by omega)
  have hcr : ∀ x : Ls, x.length = 1 → catL row x = some (row ++ x) := fun x hx => catL_ok (by unfold LIM; omega)
  have hcn : ∀ x : Ls, x.length = 1 → catL [] x = some x := fun x hx => by rw [catL_ok (by simp [hx, LIM])]; rfl
  cases h with
  | sign c hc =>
    cases stale with
    | true =>
      by_cases hz : (0 : Int) = most
      · subst hz; simp [kSign, kEnd, kAnew, mkS, kMore, dot, a0, a1, hap, hcn]
      · simp [kSign, kEnd, kAnew, mkS, kMore, dot, a0, a1, hz, hap, hcn]
    | false =>
      by_cases hz : (row.length : Int) = most
      · simp [kSign, kEnd, kAnew, mkS, kMore, dot, a0, a1, hz, hap, hcn]
      · simp [kSign, kEnd, kAnew, mkS, kMore, dot, a0, a1, hz, hap, hcr]
  | ink c hc => cases stale <;> simp [kSign, kEnd, kAnew, kInk, mkS, dot, b0]
  | ground c hc => cases stale <;> simp [kSign, kEnd, kAnew, kInk, kGround, mkS, dot, b1]
  | plain => cases stale <;> simp [kSign, kEnd, kAnew, kInk, kGround, kPlain, mkS, dot]
  | fin => cases stale <;> simp [kEnd, kAnew, mkS, dot, kWhole, hap]
  | anew => cases stale <;> simp [kEnd, kAnew, mkS, dot]
theorem lw_parts_eq {most : Int} (h1 : 1 ≤ most) (hm : most ≤ 200) {is : List Im} (hi : ∀ i ∈ is, GI i.2.1 i.2.2) (hl : is.length ≤ 100000) : t_lw_parts is most = some ((mkA most s00 is).2, (mkA most s00 is).1.1) := by
  unfold t_lw_parts
  dsimp only
  have key : ∀ (g : List Pt × Ls × Bool × List Ts → Im → Option (List Pt × Ls × Bool × List Ts)), (∀ (s : Ms) (i : Im) (P : List Pt), GI i.2.1 i.2.2 → (s.1.length : Int) ≤ most → P.length + 2 ≤ LIM → g (P, s.1, s.2.1, [s.2.2.1, s.2.2.2]) i = some (P ++ (mkS most s i).2, (mkS most s i).1.1, (mkS most s i).1.2.1, [(mkS most s i).1.2.2.1, (mkS most s i).1.2.2.2])) → ∀ (is : List Im) (s : Ms) (P : List Pt), (∀ i ∈ is, GI i.2.1 i.2.2) → (s.1.length : Int) ≤ most → P.length + is.length ≤ 200000 → foldT g is (P, s.1, s.2.1, [s.2.2.1, s.2.2.2]) = some (P ++ (mkA most s is).2, (mkA most s is).1.1, (mkA most s is).1.2.1, [(mkA most s is).1.2.2.1, (mkA most s is).1.2.2.2]) := by
    intro g hg is
    induction is with
    | nil => intro s P _ _ _; simp [foldT, mkA]
    | cons i is ih =>
      intro s P hi hl hP
      rw [List.length_cons] at hP
      have hs1 : (mkS most s i).2.length ≤ 1 := by
        rcases mkS_told most s i with h | ⟨p, h⟩ <;> rw [h] <;> simp
      unfold foldT
      rw [hg s i P (hi i List.mem_cons_self) hl (by unfold LIM; omega), Option.bind_some, ih _ _ (fun j hj => hi j (List.mem_cons_of_mem _ hj)) (mkS_len h1 hl) (by rw [List.length_append]; omega)]
      rw [List.append_assoc]
      rfl
  refine (congrArg (Option.bind · _) (key _ ?_ is s00 [] hi ?_ ?_)).trans ?_
  · exact fun s i P h hl hP => put_law hm h hl hP _ rfl
  · show ((0 : Nat) : Int) ≤ most; omega
  · simp; omega
  · rw [List.nil_append]
    rfl
end OW

namespace LW
open PySem L2 LI OW
def xL : List (Nat × List Str) := [(1, ["at"]), (6, [])]
def kL : List Nat := [1, 2, 3, 4, 5, 6, 7, 8, 9, 10]
def subX (n k : Nat) : Bool := decide ((n, k) ∈ ([(1, 1), (6, 6)] : List (Nat × Nat)))
def xL_OutError : List (Nat × List Str) := [(1, ["at"]), (6, [])]
theorem sbX_OutError : ∀ p ∈ xL_OutError, p ∈ xL := by decide
def t_checked__X1 (text : An) : Option (Exn ⊕ Unit) :=
  (((isiA "str" text).bind fun v1_ => some (!v1_)).bind fun v2_ => if v2_ = true then
  (some (0 : Int)).bind fun x3_ => some (.inl (1, [("at", an eI x3_)]) : (Exn ⊕ Unit))
  else
  (((dS text.d).bind fun v4_ => some (enumT 0 (chars v4_))).bind fun v5_ => (forT (τ := (Exn ⊕ Unit)) (fun (s6_ : Unit) (x7_ : (Int × Ts)) =>
  ((((t_is_sign x7_.2).bind fun v8_ => some (!v8_)).bind fun v9_ => (if v9_ = true then ((inS x7_.2 ['\n', '\t']).bind fun k => some (!k)) else some false)).bind fun v10_ => if v10_ = true then
  (some x7_.1).bind fun x11_ => some (.rt (.inl (1, [("at", an eI x11_)]) : (Exn ⊕ Unit)) : (St Unit (Exn ⊕ Unit)))
  else
  some (.nx () : (St Unit (Exn ⊕ Unit))))) v5_ ()).bind fun u => seqT u fun (s6_ : Unit) => some (.inr () : (Exn ⊕ Unit))))
def t_Reader_feed__X1 (self : OReader) (piece : An) : Option ((Exn ⊕ (List Im)) × OReader) :=
  bindX (fun r => r) (t_checked__X1 piece) (fun (r1_ : (Exn ⊕ Unit)) (y2_ : Unit) =>
  let found : (List Im) := ([] : (List Im))
  (((dS piece.d).bind fun v3_ => some (chars v3_)).bind fun v4_ => (foldT (fun (s5_ : (OReader × (List Im))) (sign : Ts) =>
  (((t_Reader_take s5_.1 sign).bind fun r6_ => (catL s5_.2 r6_.1).bind fun z7_ => some (r6_, z7_))).bind fun (u8_ : (((List Im) × OReader) × (List Im))) =>
  some (u8_.1.2, u8_.2)) v4_ (self, found)).bind fun (s5_ : (OReader × (List Im))) =>
  some ((.inr s5_.2 : Exn ⊕ (List Im)), s5_.1))) (fun (r1_ : (Exn ⊕ Unit)) (x9_ : Exn) => ((.inl x9_ : Exn ⊕ (List Im)), self))
def t_items_of__X1 (text : An) : Option (Exn ⊕ (List Im)) :=
  (t_Reader_init).bind fun (reader : OReader) =>
  bindX (fun r => r.1) (t_Reader_feed__X1 reader text) (fun (r1_ : ((Exn ⊕ (List Im)) × OReader)) (found : (List Im)) =>
  (((t_Reader_finish r1_.2).bind fun r2_ => (catL found r2_.1).bind fun z3_ => some (z3_, r2_))).bind fun u4_ => some (.inr u4_.1 : (Exn ⊕ (List Im)))) (fun (r1_ : ((Exn ⊕ (List Im)) × OReader)) (x5_ : Exn) => (.inl x5_ : (Exn ⊕ (List Im))))
def t_checked_most__X1 (most : An) : Option (Exn ⊕ Unit) :=
  ((((isiA "int" most).bind fun v1_ => some (!v1_)).bind fun v2_ => (if v2_ = true then some true else ((isiA "bool" most).bind fun v3_ => (if v3_ = true then some true else (((dI most.d).bind fun v4_ => (if decide ((1 : Int) ≤ v4_) = true then some (decide (v4_ ≤ (200 : Int))) else some false)).bind fun v5_ => some (!v5_)))))).bind fun v6_ => if v6_ = true then
  some (.inl (6, []) : (Exn ⊕ Unit))
  else
  some (.inr () : (Exn ⊕ Unit)))
def t_Maker_init__X1 (most : An) : Option (Exn ⊕ OMaker) :=
  bindX (fun r => r) (t_checked_most__X1 most) (fun (r1_ : (Exn ⊕ Unit)) (y2_ : Unit) =>
  ((dI most.d)).bind fun (u3_ : Int) =>
  let u4_ : Ls := ([] : Ls)
  let u5_ : Ts := ['.']
  let u6_ : Ts := ['.']
  let u7_ : Bool := false
  let u8_ : Bool := false
  some (.inr ({ most := u3_, row := u4_, ink := u5_, ground := u6_, stale := u7_, more := u8_ : OMaker }) : (Exn ⊕ OMaker))) (fun (r1_ : (Exn ⊕ Unit)) (x9_ : Exn) => (.inl x9_ : (Exn ⊕ OMaker)))
def t_rows_of__X1 (text : An) (most : An) : Option (Exn ⊕ ((List Pt) × Ls)) :=
  bindX (fun r => r) (t_Maker_init__X1 most) (fun (r1_ : (Exn ⊕ OMaker)) (maker : OMaker) =>
  let parts : (List Pt) := ([] : (List Pt))
  bindX (fun r => r) (t_items_of__X1 text) (fun (r2_ : (Exn ⊕ (List Im))) (y3_ : (List Im)) =>
  (foldT (fun (s4_ : (OMaker × (List Pt))) (item : Im) =>
  (((t_Maker_put s4_.1 item).bind fun r5_ => (catL s4_.2 r5_.1).bind fun z6_ => some (r5_, z6_))).bind fun (u7_ : (((List Pt) × OMaker) × (List Pt))) =>
  some (u7_.1.2, u7_.2)) y3_ (maker, parts)).bind fun (s4_ : (OMaker × (List Pt))) =>
  (((t_Maker_open_letters s4_.1).bind fun v8_ => some (s4_.2, v8_))).bind fun u9_ => some (.inr u9_ : (Exn ⊕ ((List Pt) × Ls)))) (fun (r2_ : (Exn ⊕ (List Im))) (x10_ : Exn) => (.inl x10_ : (Exn ⊕ ((List Pt) × Ls))))) (fun (r1_ : (Exn ⊕ OMaker)) (x11_ : Exn) => (.inl x11_ : (Exn ⊕ ((List Pt) × Ls))))
def t_lw_parts_c (items : (List Im)) (most : Int) : Option ((List Pt) × Ls) :=
  let parts_here : (List Pt) := ([] : (List Pt))
  let row : Ls := ([] : Ls)
  let stale : Bool := false
  let colours : (List Ts) := ([(['.'] : Ts), (['.'] : Ts)] : (List Ts))
  (foldT (fun (s1_ : ((List Pt) × Ls × Bool × (List Ts))) (x2_ : Im) =>
  ((if (s1_.2.2.1 && ((!decide (x2_.2.1 = (['e', 'n', 'd'] : Ts))) && (!decide (x2_.2.1 = (['a', 'n', 'e', 'w'] : Ts))))) = true then
  let row : Ls := ([] : Ls)
  let stale : Bool := false
  some (row, stale)
  else
  some (s1_.2.1, s1_.2.2.1) : Option (Ls × Bool))).bind fun (s3_ : (Ls × Bool)) =>
  ((if (decide (x2_.2.1 = (['s', 'i', 'g', 'n'] : Ts))) = true then
  ((if (decide ((List.length s3_.1 : Int) = most)) = true then
  ((((some s3_.1).bind fun (r4_ : Ls) => (some (['m', 'o', 'r', 'e'] : Ts)).bind fun (r5_ : Ts) => some ((r4_, r5_), r4_, r5_, ())).bind fun (r6_ : (Pt × Ls × Ts × Unit)) => (appT s1_.1 r6_.1).bind fun z7_ => some (r6_, z7_))).bind fun (u8_ : ((Pt × Ls × Ts × Unit) × (List Pt))) =>
  let row : Ls := ([] : Ls)
  some (u8_.2, row)
  else
  some (s1_.1, s3_.1) : Option ((List Pt) × Ls))).bind fun (s9_ : ((List Pt) × Ls)) =>
  (((((atI s1_.2.2.2 (0 : Int)).bind fun v10_ => (atI s1_.2.2.2 (1 : Int)).bind fun v11_ => some (x2_.2.2, v10_, v11_, x2_.1)).bind fun v12_ => some ([v12_] : Ls)).bind fun v13_ => (catL s9_.2 v13_))).bind fun (row : Ls) =>
  some (s9_.1, row, s1_.2.2.2)
  else
  ((if (decide (x2_.2.1 = (['i', 'n', 'k'] : Ts))) = true then
  (some x2_.2.2).bind fun u14_ => ((some (0 : Int))).bind fun i15_ => (setT s1_.2.2.2 i15_ u14_).bind fun y16_ =>
  some y16_
  else
  ((if (decide (x2_.2.1 = (['g', 'r', 'o', 'u', 'n', 'd'] : Ts))) = true then
  (some x2_.2.2).bind fun u17_ => ((some (1 : Int))).bind fun i18_ => (setT s1_.2.2.2 i18_ u17_).bind fun y19_ =>
  some y19_
  else
  let colours : (List Ts) := ([(['.'] : Ts), (['.'] : Ts)] : (List Ts))
  some colours : Option (List Ts))).bind fun (s20_ : (List Ts)) =>
  some s20_ : Option (List Ts))).bind fun (s21_ : (List Ts)) =>
  some (s1_.1, s3_.1, s21_) : Option ((List Pt) × Ls × (List Ts)))).bind fun (s22_ : ((List Pt) × Ls × (List Ts))) =>
  ((if (decide (x2_.2.1 = (['a', 'n', 'e', 'w'] : Ts))) = true then
  let stale : Bool := true
  some stale
  else
  some s3_.2 : Option Bool)).bind fun (s23_ : Bool) =>
  ((if (decide (x2_.2.1 = (['e', 'n', 'd'] : Ts))) = true then
  ((((some s22_.2.1).bind fun (r24_ : Ls) => (some (['w', 'h', 'o', 'l', 'e'] : Ts)).bind fun (r25_ : Ts) => some ((r24_, r25_), r24_, r25_, ())).bind fun (r26_ : (Pt × Ls × Ts × Unit)) => (appT s22_.1 r26_.1).bind fun z27_ => some (r26_, z27_))).bind fun (u28_ : ((Pt × Ls × Ts × Unit) × (List Pt))) =>
  let row : Ls := ([] : Ls)
  let stale : Bool := false
  some (u28_.2, row, stale)
  else
  some (s22_.1, s22_.2.1, s23_) : Option ((List Pt) × Ls × Bool))).bind fun (s29_ : ((List Pt) × Ls × Bool)) =>
  some (s29_.1, s29_.2.1, s29_.2.2, s22_.2.2)) items (parts_here, row, stale, colours)).bind fun (s1_ : ((List Pt) × Ls × Bool × (List Ts))) =>
  (((some s1_.1).bind fun (r30_ : (List Pt)) => (some s1_.2.1).bind fun (r31_ : Ls) => some ((r30_, r31_), r30_, r31_, ()))).bind fun u32_ => some u32_.1
def t_lw_whole__X1 (found : An) : Option Bool :=
  ((isiA "int" found).bind fun v1_ => (if v1_ = true then ((isiA "bool" found).bind fun v2_ => some (!v2_)) else some false))
def t_lw_bad_most (cell_here : Int) : Option An :=
  (((t_lw_mix cell_here (1 : Int)).bind fun v1_ => some (v1_ % 1000))).bind fun (far : Int) =>
  ((((dispT ([] : (List (Ts × Int)))).bind fun v2_ => some ((an (eD false kS eI)) v2_)).bind fun v3_ => some ([((an eI) (0 : Int)), ((an eI) (201 : Int)), ((an eI) ((201 : Int) + far)), ((an eI) ((-1 : Int) - far)), ((an eB) true), ((an eB) false), ((an eU) ()), ((an eS) (['5'] : Ts)), ((an (eL false eI)) ([(5 : Int)] : (List Int))), ((an (e1 eI)) ((5 : Int))), v3_, ((an eI) ((1000000000000000000000000000000 : Int) + far))] : (List An)))).bind fun (some_ : (List An)) =>
  (((t_lw_mix cell_here (0 : Int)).bind fun v4_ => some (v4_ % 12)).bind fun v5_ => (atI some_ v5_))
def t_lw_word (e_ : Exn) : Option (Ts × An) :=
  if (([5, 9, 3, 2, 8, 7, 10, 4] : List Nat).any (subX e_.1)) = true then
  some ((['o', 't', 'h', 'e', 'r'] : Ts), ((an eI) (0 : Int)))
  else
  if (((subX e_.1 6) && (subX e_.1 1)) || (!true)) = true then
  some ((['o', 't', 'h', 'e', 'r'] : Ts), ((an eI) (0 : Int)))
  else
  if (subX e_.1 6) = true then
  some ((['s', 'i', 'z', 'e'] : Ts), ((an eI) (0 : Int)))
  else
  ((if (subX e_.1 1) = true then ((fldT "at" e_).bind fun v1_ => (t_lw_whole__X1 v1_)) else some false).bind fun v2_ => if v2_ = true then
  ((fldT "at" e_).bind fun v3_ => some ((['s', 'i', 'g', 'n'] : Ts), v3_))
  else
  some ((['o', 't', 'h', 'e', 'r'] : Ts), ((an eI) (0 : Int))))
def t_lw_asked (text : An) (most : An) : Option (Ts × An) :=
  ((tryT (fun e_ => okL xL_OutError e_.1 (exF e_)) (t_rows_of__X1 text most) (fun _ => some (.inl () : (Unit ⊕ (Ts × An)))) (fun (e1_ : Exn) =>
  ((t_lw_word e1_)).bind fun u2_ => some (.inr u2_ : (Unit ⊕ (Ts × An)))) : Option (Unit ⊕ (Ts × An)))).bind fun u => seqT u fun (s3_ : Unit) => some ((['t', 'o', 'l', 'd'] : Ts), ((an eI) (0 : Int)))
def t_lw_made (most : An) : Option (Ts × An) :=
  ((tryT (fun e_ => okL xL_OutError e_.1 (exF e_)) (t_Maker_init__X1 most) (fun _ => some (.inl () : (Unit ⊕ (Ts × An)))) (fun (e1_ : Exn) =>
  ((t_lw_word e1_)).bind fun u2_ => some (.inr u2_ : (Unit ⊕ (Ts × An)))) : Option (Unit ⊕ (Ts × An)))).bind fun u => seqT u fun (s3_ : Unit) => some ((['t', 'o', 'l', 'd'] : Ts), ((an eI) (0 : Int)))
def t_lw_by_turns (script : (List Int)) (mosts : (List Int)) : Option Bool :=
  ((compT (fun (most : Int) => (some true)) (fun (most : Int) => (t_Maker_init most)) mosts)).bind fun (makers : (List OMaker)) =>
  (((some ([] : (List Im))).bind fun (r1_ : (List Im)) => (some ([] : (List Im))).bind fun (r2_ : (List Im)) => (some ([] : (List Im))).bind fun (r3_ : (List Im)) => some (([r1_, r2_, r3_] : (List (List Im))), r1_, r2_, r3_, ()))).bind fun (u4_ : ((List (List Im)) × (List Im) × (List Im) × (List Im) × Unit)) =>
  ((rngT (List.length (cutL script none (some (40 : Int))) : Int)).bind fun v5_ => (forT (τ := Bool) (fun (s6_ : ((List OMaker) × (List (List Im)))) (k : Int) =>
  ((atI script k)).bind fun (cell_here : Int) =>
  (((t_lw_mix cell_here (5 : Int)).bind fun v7_ => some (v7_ % 3))).bind fun (at_ : Int) =>
  (((((atI s6_.2 at_).bind fun v8_ => (atI mosts at_).bind fun v9_ => (t_lw_parts_c v8_ v9_)).bind fun v10_ => some v10_.1).bind fun v11_ => some (List.length v11_ : Int))).bind fun (ahead : Int) =>
  ((((t_lw_mix cell_here (6 : Int)).bind fun v12_ => some (v12_ % 6)).bind fun v13_ => (atI ([(['s', 'i', 'g', 'n'] : Ts), (['s', 'i', 'g', 'n'] : Ts), (['i', 'n', 'k'] : Ts), (['e', 'n', 'd'] : Ts), (['a', 'n', 'e', 'w'] : Ts), (['s', 'i', 'g', 'n'] : Ts)] : (List Ts)) v13_))).bind fun (kind : Ts) =>
  ((((((t_lw_mix cell_here (7 : Int)).bind fun v14_ => some (v14_ % 3)).bind fun v15_ => (ixS (['a', 'b', 'c'] : Ts) v15_)).bind fun v16_ => some ([([] : Ts), v16_] : (List Ts))).bind fun v17_ => (atI v17_ (b01 ((decide (kind = (['s', 'i', 'g', 'n'] : Ts))) || (decide (kind = (['i', 'n', 'k'] : Ts)))))))).bind fun (value : Ts) =>
  (((some at_).bind fun (i18_ : Int) => (atI s6_.2 i18_).bind fun (x19_ : (List Im)) => (appT x19_ (k, kind, value)).bind fun (r20_ : (List Im)) => some (i18_, r20_))).bind fun (u21_ : (Int × (List Im))) =>
  (((atI (setI s6_.2 u21_.1 u21_.2) at_).bind fun v22_ => (atI mosts at_).bind fun v23_ => (t_lw_parts_c v22_ v23_))).bind fun (u24_ : ((List Pt) × Ls)) =>
  ((((((some at_).bind fun (i25_ : Int) => (atI s6_.1 i25_).bind fun (x26_ : OMaker) => (((atI (setI s6_.2 u21_.1 u21_.2) at_).bind fun v27_ => (atI v27_ (-1 : Int))).bind fun v28_ => (t_Maker_put x26_ v28_)).bind fun (r29_ : ((List Pt) × OMaker)) => some (i25_, r29_)).bind fun (r30_ : (Int × ((List Pt) × OMaker))) => (some (cutL u24_.1 (some ahead) none)).bind fun (r31_ : (List Pt)) => (t_lw_parts_right r30_.2.1 r31_).bind fun z32_ => some (z32_, r30_, r31_, ())).bind fun (r33_ : (Bool × (Int × ((List Pt) × OMaker)) × (List Pt) × Unit)) => some (r33_.1, (setI s6_.1 r33_.2.1.1 r33_.2.1.2.2))).bind fun (k34_ : Bool × (List OMaker)) => some (!k34_.1, k34_.2))).bind fun (k35_ : Bool × (List OMaker)) => if k35_.1 = true then
  some (.rt false : (St ((List OMaker) × (List (List Im))) Bool))
  else
  some (.nx (k35_.2, (setI s6_.2 u21_.1 u21_.2)) : (St ((List OMaker) × (List (List Im))) Bool))) v5_ (makers, u4_.1)).bind fun u => seqT u fun (s6_ : ((List OMaker) × (List (List Im)))) => ((rngT (3 : Int)).bind fun v36_ => (forT (τ := Bool) (fun (s37_ : Unit) (at_ : Int) =>
  (((((atI s6_.1 at_).bind fun v38_ => (t_Maker_open_letters v38_)).bind fun v39_ => (((atI s6_.2 at_).bind fun v40_ => (atI mosts at_).bind fun v41_ => (t_lw_parts_c v40_ v41_)).bind fun v42_ => some v42_.2).bind fun v43_ => (t_lw_letters_right v39_ v43_)).bind fun v44_ => some (!v44_)).bind fun v45_ => if v45_ = true then
  some (.rt false : (St Unit Bool))
  else
  some (.nx () : (St Unit Bool)))) v36_ ()).bind fun u => seqT u fun (s37_ : Unit) => some true))
def t_law (script : (List Int)) : Option Bool :=
  ((t_lw_cell script (0 : Int))).bind fun (cell_here : Int) =>
  ((t_lw_bad_most cell_here)).bind fun (bad : An) =>
  (((((t_lw_mix cell_here (3 : Int)).bind fun v1_ => some (v1_ % 6)).bind fun v2_ => some (some v2_)).bind fun v3_ => (slS none v3_ (['w', 'e', 'a', 'v', 'e'] : Ts)))).bind fun (text : Ts) =>
  ((catS text (['~', '~'] : Ts))).bind fun (spoilt : Ts) =>
  ((((t_lw_mix cell_here (4 : Int)).bind fun v4_ => some (v4_ % 3)).bind fun v5_ => (atI ([(1 : Int), (200 : Int), (7 : Int)] : (List Int)) v5_))).bind fun (good : Int) =>
  (((t_lw_made bad).bind fun v6_ => (t_lw_asked ((an eS) text) bad).bind fun v7_ => (t_lw_asked ((an eS) spoilt) bad).bind fun v8_ => (t_lw_asked ((an eU) ()) bad).bind fun v9_ => some ([v6_, v7_, v8_, v9_] : (List (Ts × An))))).bind fun (words : (List (Ts × An))) =>
  ((((repL ([((['s', 'i', 'z', 'e'] : Ts), (0 : Int))] : (List (Ts × Int))) (4 : Int)).bind fun v10_ => some ((List.map (fun t : (Ts × Int) => (t.1, (an eI) t.2))) v10_)).bind fun v11_ => ((eqB ((eL false (e2 eS eA)) words) ((eL true (e2 eS eA)) v11_)).bind fun k => some (!k))).bind fun v12_ => if v12_ = true then
  some false
  else
  ((((t_lw_asked ((an eS) spoilt) ((an eI) good)).bind fun v13_ => (((lenS text).bind fun v14_ => some ((an eI) v14_)).bind fun v15_ => some ((['s', 'i', 'g', 'n'] : Ts), v15_)).bind fun v16_ => ((eqB ((e2 eS eA) v13_) ((e2 eS eA) v16_)).bind fun k => some (!k))).bind fun v17_ => (if v17_ = true then some true else ((t_lw_asked ((an (eL false eS)) ([text] : (List Ts))) ((an eI) good)).bind fun v18_ => ((eqB ((e2 eS eA) v18_) ((e2 eS eA) ((['s', 'i', 'g', 'n'] : Ts), ((an eI) (0 : Int))))).bind fun k => some (!k))))).bind fun v19_ => if v19_ = true then
  some false
  else
  ((((t_lw_asked ((an eS) text) ((an eI) good)).bind fun v20_ => ((eqB ((e2 eS eA) v20_) ((e2 eS eA) ((['t', 'o', 'l', 'd'] : Ts), ((an eI) (0 : Int))))).bind fun k => some (!k))).bind fun v21_ => (if v21_ = true then some true else ((t_lw_made ((an eI) good)).bind fun v22_ => ((eqB ((e2 eS eA) v22_) ((e2 eS eA) ((['t', 'o', 'l', 'd'] : Ts), ((an eI) (0 : Int))))).bind fun k => some (!k))))).bind fun v23_ => if v23_ = true then
  some false
  else
  (((((t_lw_mix cell_here (9 : Int)).bind fun v24_ => some (v24_ % 3)).bind fun v25_ => some ((1 : Int) + v25_)).bind fun v26_ => some ([v26_, (200 : Int), (1 : Int)] : (List Int))).bind fun v27_ => (t_lw_by_turns script v27_)))))
end LW

namespace LW
open PySem L2 PyProof.Rows LI
def kv_ENDS : List (List Nat × List Nat) := [([10], [101, 110, 100]), ([9], [97, 110, 101, 119])]
def m_is_sign : SM := (seqM (retM (upF (andM (isiM "str" (vM 0)) (andM (m2 eqD (mA lenD (consM (vM 0) nilM)) (kM (.int 1))) (chM leD leD (kM (.str [32])) (vM 0) (kM (.str [125]))))))) skipM)
def F_is_sign : FM := runM 1 [true] m_is_sign
def m_is_colour : SM := (seqM (retM (upF (andM (isiM "str" (vM 0)) (andM (m2 eqD (mA lenD (consM (vM 0) nilM)) (kM (.int 1))) (m2 inD (vM 0) (kM (.str [97, 98, 99, 100, 101, 102, 103, 104, 46]))))))) skipM)
def F_is_colour : FM := runM 1 [true] m_is_colour
def m_checked__X1 : SM := (seqM (ifM (notB (truM (isiM "str" (vM 0)))) (seqM (raise1 1 "at" (kM (.int 0))) skipM) skipM)
  (seqM (forM (tupT (consT (nameT 1) (consT (nameT 2) nilT))) (seqM (ifM (andB (notB (truM (callM F_is_sign (consM (vM 2) nilM)))) (bM (m2 ninD (vM 2) (kM (.str [10, 9]))))) (seqM (raise1 1 "at" (vM 1)) skipM) skipM)
  skipM) [1, 2] (enumSM (vM 0)))
  skipM))
def F_checked__X1 : FX := runX 3 [true] m_checked__X1
def m_sign_item : SM := (seqM (ifM (bM (m1 (inK kv_ENDS) (vM 1))) (seqM (retM (upF (tupM (consM (vM 0) (consM (m1 (ixK kv_ENDS) (vM 1)) (consM (kM (.str [])) nilM)))))) skipM) skipM)
  (seqM (retM (upF (tupM (consM (vM 0) (consM (kM (.str [115, 105, 103, 110])) (consM (vM 1) nilM)))))) skipM))
def F_sign_item : FM := runM 2 [true, true] m_sign_item
def m_begins_mark : SM := (seqM (ifM (bM (m2 inD (vM 0) (tupM (consM (kM (.str [91])) (consM (kM (.str [91, 47])) nilM))))) (seqM (retM (upF (kM (.bl true)))) skipM) skipM)
  (seqM (ifM (andB (bM (m2 eqD (mA lenD (consM (vM 0) nilM)) (kM (.int 2)))) (bM (m2 eqD (m2 ixD (vM 0) (kM (.int 0))) (kM (.str [91]))))) (seqM (retM (upF (callM F_is_colour (consM (m2 ixD (vM 0) (kM (.int 1))) nilM)))) skipM) skipM)
  (seqM (retM (upF (andM (m2 eqD (mA lenD (consM (vM 0) nilM)) (kM (.int 3))) (andM (m2 eqD (slM (vM 0) noM (soM (kM (.int 2)))) (kM (.str [91, 47]))) (callM F_is_colour (consM (m2 ixD (vM 0) (kM (.int 2))) nilM)))))) skipM)))
def F_begins_mark : FM := runM 1 [true] m_begins_mark
def m_mark_item : SM := (seqM (ifM (bM (m2 eqD (vM 1) (kM (.str [91, 91])))) (seqM (retM (upF (tupM (consM (vM 0) (consM (kM (.str [115, 105, 103, 110])) (consM (kM (.str [91])) nilM)))))) skipM) skipM)
  (seqM (ifM (bM (m2 eqD (vM 1) (kM (.str [91, 93])))) (seqM (retM (upF (tupM (consM (vM 0) (consM (kM (.str [112, 108, 97, 105, 110])) (consM (kM (.str [])) nilM)))))) skipM) skipM)
  (seqM (ifM (andB (bM (m2 eqD (mA lenD (consM (vM 1) nilM)) (kM (.int 3)))) (andB (bM (m2 eqD (m2 ixD (vM 1) (kM (.int 0))) (kM (.str [91])))) (andB (truM (callM F_is_colour (consM (m2 ixD (vM 1) (kM (.int 1))) nilM))) (bM (m2 eqD (m2 ixD (vM 1) (kM (.int 2))) (kM (.str [93]))))))) (seqM (retM (upF (tupM (consM (vM 0) (consM (kM (.str [105, 110, 107])) (consM (m2 ixD (vM 1) (kM (.int 1))) nilM)))))) skipM) skipM)
  (seqM (ifM (andB (bM (m2 eqD (mA lenD (consM (vM 1) nilM)) (kM (.int 4)))) (andB (bM (m2 eqD (slM (vM 1) noM (soM (kM (.int 2)))) (kM (.str [91, 47])))) (andB (truM (callM F_is_colour (consM (m2 ixD (vM 1) (kM (.int 2))) nilM))) (bM (m2 eqD (m2 ixD (vM 1) (kM (.int 3))) (kM (.str [93]))))))) (seqM (retM (upF (tupM (consM (vM 0) (consM (kM (.str [103, 114, 111, 117, 110, 100])) (consM (m2 ixD (vM 1) (kM (.int 2))) nilM)))))) skipM) skipM)
  (seqM (retM (upF (kM .non))) skipM)))))
def F_mark_item : FM := runM 2 [true, true] m_mark_item
def m_Reader_init : SM := (seqM (fldM 11 "kept" (vL 0) (upF (kM (.str []))))
  (seqM (fldM 11 "place" (vL 0) (upF (kM (.int 0))))
  skipM))
def F_Reader_init : FM := runM 1 [true] m_Reader_init
def m_Reader_told : SM := (seqM (asgM (nameT 2) (upF (lstM nilM)))
  (seqM (forM (nameT 3) (seqM (exprM (appL (vL 2) (callM F_sign_item (consM (fldL 11 "place" (vL 0)).get (consM (vM 3) nilM)))))
  (seqM (fldM 11 "place" (vL 0) (upF (m2 addD (fldL 11 "place" (vL 0)).get (kM (.int 1)))))
  skipM)) [3] (itM (slM (fldL 11 "kept" (vL 0)).get noM (soM (vM 1)))))
  (seqM (fldM 11 "kept" (vL 0) (upF (slM (fldL 11 "kept" (vL 0)).get (soM (vM 1)) noM)))
  (seqM (retM (mvM (vL 2))) skipM))))
def F_Reader_told : FM := runM 4 [true, true] m_Reader_told
def m_Reader_take : SM := (seqM (asgM (nameT 2) (upF (callM F_mark_item (consM (fldL 11 "place" (vL 0)).get (consM (m2 addD (fldL 11 "kept" (vL 0)).get (vM 1)) nilM)))))
  (seqM (ifM (bM (m2 nisD (vM 2) (kM .non))) (seqM (fldM 11 "place" (vL 0) (upF (m2 addD (m2 addD (fldL 11 "place" (vL 0)).get (mA lenD (consM (fldL 11 "kept" (vL 0)).get nilM))) (kM (.int 1)))))
  (seqM (fldM 11 "kept" (vL 0) (upF (kM (.str []))))
  (seqM (retM (upF (lstM (consM (vM 2) nilM)))) skipM))) skipM)
  (seqM (ifM (truM (callM F_begins_mark (consM (m2 addD (fldL 11 "kept" (vL 0)).get (vM 1)) nilM))) (seqM (fldM 11 "kept" (vL 0) (upF (m2 addD (fldL 11 "kept" (vL 0)).get (vM 1))))
  (seqM (retM (upF (lstM nilM))) skipM)) skipM)
  (seqM (asgM (nameT 3) (methM 11 "told" (vL 0) F_Reader_told (consM (mA lenD (consM (fldL 11 "kept" (vL 0)).get nilM)) nilM)))
  (seqM (fldM 11 "kept" (vL 0) (upR (vM 1)))
  (seqM (ifM (bM (m2 neD (vM 1) (kM (.str [91])))) (seqM (exprM (extS 3 (methM 11 "told" (vL 0) F_Reader_told (consM (kM (.int 1)) nilM))))
  skipM) skipM)
  (killM [] (seqM (retM (mvM (vL 3))) skipM))))))))
def F_Reader_take : FM := runM 4 [true, true] m_Reader_take
def m_Reader_feed__X1 : SM := (seqM (exprX (callX F_checked__X1 (consM (vM 1) nilM)))
  (seqM (asgM (nameT 2) (upF (lstM nilM)))
  (seqM (forM (nameT 3) (seqM (exprM (extS 2 (methM 11 "take" (vL 0) F_Reader_take (consM (vM 3) nilM))))
  skipM) [3] (itM (vM 1)))
  (seqM (retM (mvM (vL 2))) skipM))))
def F_Reader_feed__X1 : FX := runX 4 [true, true] m_Reader_feed__X1
def m_Reader_finish : SM := (seqM (retM (methM 11 "told" (vL 0) F_Reader_told (consM (mA lenD (consM (fldL 11 "kept" (vL 0)).get nilM)) nilM))) skipM)
def F_Reader_finish : FM := runM 1 [true] m_Reader_finish
def m_items_of__X1 : SM := (seqM (asgM (nameT 1) (upF (mkM 11 F_Reader_init nilM)))
  (seqM (setX 2 (methX 11 "feed" (vL 1) F_Reader_feed__X1 (consM (vM 0) nilM)))
  (frzM 2 (seqM (retM (coldG (binVG addD 2 (methM 11 "finish" (vL 1) F_Reader_finish nilM)))) skipM))))
def F_items_of__X1 : FX := runX 3 [true] m_items_of__X1
def m_checked_most__X1 : SM := (seqM (ifM (orB (notB (truM (isiM "int" (vM 0)))) (orB (truM (isiM "bool" (vM 0))) (notB (bM (chM leD leD (kM (.int 1)) (vM 0) (kM (.int 200))))))) (seqM (raise0 6) skipM) skipM)
  skipM)
def F_checked_most__X1 : FX := runX 1 [true] m_checked_most__X1
def m_checked_most : SM := (seqM (ifM (orB (notB (truM (isiM "int" (vM 0)))) (orB (truM (isiM "bool" (vM 0))) (notB (bM (chM leD leD (kM (.int 1)) (vM 0) (kM (.int 200))))))) (seqM noM' skipM) skipM)
  skipM)
def F_checked_most : FM := runM 1 [true] m_checked_most
def m_Maker_init__X1 : SM := (seqM (exprX (callX F_checked_most__X1 (consM (vM 1) nilM)))
  (seqM (fldM 12 "most" (vL 0) (upR (vM 1)))
  (seqM (fldM 12 "row" (vL 0) (upF (lstM nilM)))
  (seqM (fldM 12 "ink" (vL 0) (upF (kM (.str [46]))))
  (seqM (fldM 12 "ground" (vL 0) (upF (kM (.str [46]))))
  (seqM (fldM 12 "stale" (vL 0) (upF (kM (.bl false))))
  (seqM (fldM 12 "more" (vL 0) (upF (kM (.bl false))))
  skipM)))))))
def F_Maker_init__X1 : FX := runX 2 [true, true] m_Maker_init__X1
def m_Maker_init : SM := (seqM (exprM (upF (callM F_checked_most (consM (vM 1) nilM))))
  (seqM (fldM 12 "most" (vL 0) (upR (vM 1)))
  (seqM (fldM 12 "row" (vL 0) (upF (lstM nilM)))
  (seqM (fldM 12 "ink" (vL 0) (upF (kM (.str [46]))))
  (seqM (fldM 12 "ground" (vL 0) (upF (kM (.str [46]))))
  (seqM (fldM 12 "stale" (vL 0) (upF (kM (.bl false))))
  (seqM (fldM 12 "more" (vL 0) (upF (kM (.bl false))))
  skipM)))))))
def F_Maker_init : FM := runM 2 [true, true] m_Maker_init
def m_Maker_open_letters : SM := (seqM (retM (upF (mA listD (consM (fldL 12 "row" (vL 0)).get nilM)))) skipM)
def F_Maker_open_letters : FM := runM 1 [true] m_Maker_open_letters
def m_Maker_make_plain : SM := (seqM (fldM 12 "ink" (vL 0) (upF (kM (.str [46]))))
  (seqM (fldM 12 "ground" (vL 0) (upF (kM (.str [46]))))
  skipM))
def F_Maker_make_plain : FM := runM 1 [true] m_Maker_make_plain
def m_Maker_tell_part : SM := (frzP (fldL 12 "row" (vL 0)) (seqM (asgM (nameT 2) (upF (tupM (consM (fldL 12 "row" (vL 0)).get (consM (vM 1) nilM)))))
  (seqM (fldM 12 "row" (vL 0) (upF (lstM nilM)))
  (seqM (fldM 12 "stale" (vL 0) (upF (kM (.bl false))))
  (seqM (fldM 12 "more" (vL 0) (upF (m2 eqD (vM 1) (kM (.str [109, 111, 114, 101])))))
  (seqM (retM (upF (lstM (consM (vM 2) nilM)))) skipM))))))
def F_Maker_tell_part : FM := runM 3 [true, true] m_Maker_tell_part
def m_Maker_put_sign : SM := (seqM (asgM (nameT 3) (upF (coldM (lstM nilM))))
  (seqM (ifM (bM (m2 eqD (mA lenD (consM (fldL 12 "row" (vL 0)).get nilM)) (fldL 12 "most" (vL 0)).get)) (seqM (iceM 3 (asgM (nameT 3) (methM 12 "tell_part" (vL 0) F_Maker_tell_part (consM (kM (.str [109, 111, 114, 101])) nilM))))
  skipM) skipM)
  (killM [] (seqM (exprM (appL (fldL 12 "row" (vL 0)) (tupM (consM (vM 1) (consM (fldL 12 "ink" (vL 0)).get (consM (fldL 12 "ground" (vL 0)).get (consM (vM 2) nilM)))))))
  (seqM (retM (upR (vM 3))) skipM)))))
def F_Maker_put_sign : FM := runM 4 [true, true, true] m_Maker_put_sign
def m_Maker_put : SM := (seqM (asgM (tupT (consT (nameT 2) (consT (nameT 3) (consT (nameT 4) nilT)))) (upR (vM 1)))
  (seqM (ifM (bM (m2 eqD (vM 3) (kM (.str [101, 110, 100])))) (seqM (exprM (methM 12 "make_plain" (vL 0) F_Maker_make_plain nilM))
  (seqM (retM (coldG (methM 12 "tell_part" (vL 0) F_Maker_tell_part (consM (kM (.str [119, 104, 111, 108, 101])) nilM)))) skipM)) skipM)
  (seqM (ifM (bM (m2 eqD (vM 3) (kM (.str [97, 110, 101, 119])))) (seqM (exprM (methM 12 "make_plain" (vL 0) F_Maker_make_plain nilM))
  (seqM (fldM 12 "stale" (vL 0) (upF (kM (.bl true))))
  (seqM (retM (upF (coldM (lstM nilM)))) skipM))) skipM)
  (seqM (ifM (truM (fldL 12 "stale" (vL 0)).get) (seqM (fldM 12 "row" (vL 0) (upF (lstM nilM)))
  (seqM (fldM 12 "stale" (vL 0) (upF (kM (.bl false))))
  skipM)) skipM)
  (killM [] (seqM (ifM (bM (m2 eqD (vM 3) (kM (.str [115, 105, 103, 110])))) (seqM (retM (methM 12 "put_sign" (vL 0) F_Maker_put_sign (consM (vM 4) (consM (vM 2) nilM)))) skipM) skipM)
  (seqM (ifM (bM (m2 eqD (vM 3) (kM (.str [105, 110, 107])))) (seqM (fldM 12 "ink" (vL 0) (upR (vM 4)))
  skipM) (seqM (ifM (bM (m2 eqD (vM 3) (kM (.str [103, 114, 111, 117, 110, 100])))) (seqM (fldM 12 "ground" (vL 0) (upR (vM 4)))
  skipM) (seqM (exprM (methM 12 "make_plain" (vL 0) F_Maker_make_plain nilM))
  skipM))
  (killM [] skipM)))
  (killM [] (seqM (retM (upF (coldM (lstM nilM)))) skipM)))))))))
def F_Maker_put : FM := runM 5 [true, true] m_Maker_put
def m_rows_of__X1 : SM := (seqM (setX 2 (mkX 12 F_Maker_init__X1 (consM (vM 1) nilM)))
  (seqM (asgM (nameT 3) (upF (lstM nilM)))
  (seqM (forXM (nameT 4) (seqM (exprM (extS 3 (methM 12 "put" (vL 2) F_Maker_put (consM (vM 4) nilM))))
  skipM) [4] (callX F_items_of__X1 (consM (vM 0) nilM)))
  (frzM 2 (frzM 3 (seqM (retM (upF (tupM (consM (vM 3) (consM (coldM (lookM 12 "open_letters" (vL 2).get F_Maker_open_letters nilM)) nilM))))) skipM))))))
def F_rows_of__X1 : FX := runX 5 [true, true] m_rows_of__X1
def m_lw_cell : SM := (seqM (ifM (bM (m2 ltD (vM 1) (mA lenD (consM (vM 0) nilM)))) (seqM (retM (upR (m2 ixD (vM 0) (vM 1)))) skipM) skipM)
  (seqM (retM (upF (kM (.int 0)))) skipM))
def F_lw_cell : FM := runM 2 [true, true] m_lw_cell
def m_lw_mix : SM := (seqM (ifM (bM (m2 gtD (vM 0) (m2 powD (kM (.int 10)) (kM (.int 18))))) (seqM (asgM (nameT 2) (upR (vM 0)))
  (seqM (forM (nameT 3) (seqM (asgM (nameT 2) (upF (m2 fdivD (vM 2) (m2 powD (kM (.int 10)) (kM (.int 9))))))
  skipM) [3] (rng1M (vM 1)))
  (seqM (retM (upF (m2 modD (vM 2) (m2 powD (kM (.int 10)) (kM (.int 9)))))) skipM))) skipM)
  (seqM (asgM (nameT 4) (upF (m2 addD (m2 modD (vM 0) (kM (.int 2147483647))) (kM (.int 7919)))))
  (seqM (forM (nameT 3) (seqM (asgM (nameT 4) (upF (m2 modD (m2 addD (m2 mulD (vM 4) (kM (.int 48271))) (kM (.int 104729))) (kM (.int 2147483629)))))
  skipM) [3] (rng1M (m2 addD (vM 1) (kM (.int 2)))))
  (seqM (retM (upF (m2 fdivD (m2 modD (m2 mulD (vM 4) (vM 4)) (kM (.int 998244353))) (kM (.int 11))))) skipM))))
def F_lw_mix : FM := runM 5 [true, true] m_lw_mix
def m_lw_parts : SM := (seqM (asgM (nameT 2) (upF (lstM nilM)))
  (seqM (asgM (nameT 3) (upF (lstM nilM)))
  (seqM (asgM (nameT 4) (upF (kM (.bl false))))
  (seqM (asgM (nameT 5) (upF (lstM (consM (kM (.str [46])) (consM (kM (.str [46])) nilM)))))
  (seqM (forM (tupT (consT (nameT 6) (consT (nameT 7) (consT (nameT 8) nilT)))) (seqM (ifM (andB (truM (vM 4)) (andB (bM (m2 neD (vM 7) (kM (.str [101, 110, 100])))) (bM (m2 neD (vM 7) (kM (.str [97, 110, 101, 119])))))) (seqM (asgM (nameT 3) (upF (lstM nilM)))
  (seqM (asgM (nameT 4) (upF (kM (.bl false))))
  skipM)) skipM)
  (killM [] (seqM (ifM (bM (m2 eqD (vM 7) (kM (.str [115, 105, 103, 110])))) (seqM (ifM (bM (m2 eqD (mA lenD (consM (vM 3) nilM)) (vM 1))) (seqM (exprM (appO 2 (tupO (consO (mvM (vL 3)) (consO (upF (kM (.str [109, 111, 114, 101]))) nilG)))))
  (seqM (asgM (nameT 3) (upF (lstM nilM)))
  skipM)) skipM)
  (killM [] (seqM (asgM (nameT 3) (upF (m2 addD (vM 3) (lstM (consM (tupM (consM (vM 8) (consM (m2 ixD (vM 5) (kM (.int 0))) (consM (m2 ixD (vM 5) (kM (.int 1))) (consM (vM 6) nilM))))) nilM)))))
  skipM))) (seqM (ifM (bM (m2 eqD (vM 7) (kM (.str [105, 110, 107])))) (seqM (storeM (vL 5) (kM (.int 0)) (upR (vM 8)))
  skipM) (seqM (ifM (bM (m2 eqD (vM 7) (kM (.str [103, 114, 111, 117, 110, 100])))) (seqM (storeM (vL 5) (kM (.int 1)) (upR (vM 8)))
  skipM) (seqM (asgM (nameT 5) (upF (lstM (consM (kM (.str [46])) (consM (kM (.str [46])) nilM)))))
  skipM))
  (killM [] skipM)))
  (killM [] skipM)))
  (killM [] (seqM (ifM (bM (m2 eqD (vM 7) (kM (.str [97, 110, 101, 119])))) (seqM (asgM (nameT 4) (upF (kM (.bl true))))
  skipM) skipM)
  (killM [] (seqM (ifM (bM (m2 eqD (vM 7) (kM (.str [101, 110, 100])))) (seqM (exprM (appO 2 (tupO (consO (mvM (vL 3)) (consO (upF (kM (.str [119, 104, 111, 108, 101]))) nilG)))))
  (seqM (asgM (nameT 3) (upF (lstM nilM)))
  (seqM (asgM (nameT 4) (upF (kM (.bl false))))
  skipM))) skipM)
  (killM [] skipM)))))))) [6, 7, 8] (itM (vM 0)))
  (seqM (retM (tupO (consO (mvM (vL 2)) (consO (mvM (vL 3)) nilG)))) skipM))))))
def F_lw_parts : FM := runM 9 [true, true] m_lw_parts
def m_lw_whole__X1 : SM := (seqM (retM (upF (andM (isiM "int" (vM 0)) (notD (isiM "bool" (vM 0)))))) skipM)
def F_lw_whole__X1 : FM := runM 1 [true] m_lw_whole__X1
def m_lw_whole : SM := (seqM (retM (upF (andM (isiM "int" (vM 0)) (notD (isiM "bool" (vM 0)))))) skipM)
def F_lw_whole : FM := runM 1 [true] m_lw_whole
def m_lw_letters_right : SM := (seqM (ifM (orB (notB (truM (isiM "list" (vM 0)))) (bM (m2 neD (mA lenD (consM (vM 0) nilM)) (mA lenD (consM (vM 1) nilM))))) (seqM (retM (upF (kM (.bl false)))) skipM) skipM)
  (seqM (forM (nameT 2) (seqM (ifM (orB (notB (truM (isiM "tuple" (vM 2)))) (orB (bM (m2 neD (mA lenD (consM (vM 2) nilM)) (kM (.int 4)))) (notB (truM (callM F_lw_whole (consM (m2 ixD (vM 2) (kM (.int 3))) nilM)))))) (seqM (retM (upF (kM (.bl false)))) skipM) skipM)
  (seqM (ifM (bM (m2 neD (compM [3] (nameT 3) yesB (isiM "str" (vM 3)) (itV (slM (vM 2) noM (soM (kM (.int 3)))))) (lstM (consM (kM (.bl true)) (consM (kM (.bl true)) (consM (kM (.bl true)) nilM)))))) (seqM (retM (upF (kM (.bl false)))) skipM) skipM)
  skipM)) [2] (itM (vM 0)))
  (seqM (retM (upF (m2 eqD (vM 0) (vM 1)))) skipM)))
def F_lw_letters_right : FM := runM 4 [true, true] m_lw_letters_right
def m_lw_parts_right : SM := (seqM (ifM (orB (notB (truM (isiM "list" (vM 0)))) (bM (m2 neD (mA lenD (consM (vM 0) nilM)) (mA lenD (consM (vM 1) nilM))))) (seqM (retM (upF (kM (.bl false)))) skipM) skipM)
  (seqM (forM (tupT (consT (nameT 2) (consT (nameT 3) nilT))) (seqM (ifM (orB (notB (truM (isiM "tuple" (vM 2)))) (orB (bM (m2 neD (mA lenD (consM (vM 2) nilM)) (kM (.int 2)))) (bM (m2 neD (m2 ixD (vM 2) (kM (.int 1))) (m2 ixD (vM 3) (kM (.int 1))))))) (seqM (retM (upF (kM (.bl false)))) skipM) skipM)
  (seqM (ifM (notB (truM (callM F_lw_letters_right (consM (m2 ixD (vM 2) (kM (.int 0))) (consM (m2 ixD (vM 3) (kM (.int 0))) nilM))))) (seqM (retM (upF (kM (.bl false)))) skipM) skipM)
  skipM)) [2, 3] (zipM (vM 0) (vM 1)))
  (seqM (retM (upF (kM (.bl true)))) skipM)))
def F_lw_parts_right : FM := runM 4 [true, true] m_lw_parts_right
def m_lw_bad_most : SM := (seqM (asgM (nameT 1) (upF (m2 modD (callM F_lw_mix (consM (vM 0) (consM (kM (.int 1)) nilM))) (kM (.int 1000)))))
  (seqM (asgM (nameT 2) (upF (coldM (lstM (consM (kM (.int 0)) (consM (kM (.int 201)) (consM (m2 addD (kM (.int 201)) (vM 1)) (consM (m2 subD (m1 negD (kM (.int 1))) (vM 1)) (consM (kM (.bl true)) (consM (kM (.bl false)) (consM (kM .non) (consM (kM (.str [53])) (consM (coldM (lstM (consM (kM (.int 5)) nilM))) (consM (tupM (consM (kM (.int 5)) nilM)) (consM (coldM (dispM nilM nilM)) (consM (m2 addD (m2 powD (kM (.int 10)) (kM (.int 30))) (vM 1)) nilM))))))))))))))))
  (seqM (retM (upR (m2 ixD (vM 2) (m2 modD (callM F_lw_mix (consM (vM 0) (consM (kM (.int 0)) nilM))) (kM (.int 12)))))) skipM)))
def F_lw_bad_most : FM := runM 3 [true] m_lw_bad_most
def m_lw_word (n : Nat) (fs : List Str) (es : List D) : SM := (seqM (ifM (truM (kM (.bl (([5, 9, 3, 2, 8, 7, 10, 4] : List Nat).any (subX n))))) (seqM (retM (upF (tupM (consM (kM (.str [111, 116, 104, 101, 114])) (consM (kM (.int 0)) nilM))))) skipM) skipM)
  (seqM (ifM (orB (andB (truM (kM (.bl (subX n 6)))) (truM (kM (.bl (subX n 1))))) (notB (truM (kM (.bl true))))) (seqM (retM (upF (tupM (consM (kM (.str [111, 116, 104, 101, 114])) (consM (kM (.int 0)) nilM))))) skipM) skipM)
  (seqM (ifM (truM (kM (.bl (subX n 6)))) (seqM (retM (upF (tupM (consM (kM (.str [115, 105, 122, 101])) (consM (kM (.int 0)) nilM))))) skipM) skipM)
  (seqM (ifM (andB (truM (kM (.bl (subX n 1)))) (truM (callM F_lw_whole__X1 (consM (xfldM "at" fs es) nilM)))) (seqM (retM (upF (tupM (consM (kM (.str [115, 105, 103, 110])) (consM (xfldM "at" fs es) nilM))))) skipM) skipM)
  (seqM (retM (upF (tupM (consM (kM (.str [111, 116, 104, 101, 114])) (consM (kM (.int 0)) nilM))))) skipM)))))
def F_lw_word : FE := runE 1 m_lw_word
def m_lw_asked : SM := (seqM (tryM 2 (okL xL_OutError) (exprX (callX F_rows_of__X1 (consM (vM 0) (consM (vM 1) nilM)))) (fun n fs es => (seqM (retM (upF (callE F_lw_word n fs es))) skipM)))
  (killM [2] (seqM (retM (upF (tupM (consM (kM (.str [116, 111, 108, 100])) (consM (kM (.int 0)) nilM))))) skipM)))
def F_lw_asked : FM := runM 3 [true, true] m_lw_asked
def m_lw_made : SM := (seqM (tryM 1 (okL xL_OutError) (exprX (mkX 12 F_Maker_init__X1 (consM (vM 0) nilM))) (fun n fs es => (seqM (retM (upF (callE F_lw_word n fs es))) skipM)))
  (killM [1] (seqM (retM (upF (tupM (consM (kM (.str [116, 111, 108, 100])) (consM (kM (.int 0)) nilM))))) skipM)))
def F_lw_made : FM := runM 2 [true] m_lw_made
def m_lw_by_turns : SM := (seqM (asgM (nameT 2) (upF (compOM [12] (nameT 12) yesB (mkM 12 F_Maker_init (consM (vM 12) nilM)) (itV (vM 1)))))
  (seqM (asgM (nameT 3) (lstO (consO (upF (lstM nilM)) (consO (upF (lstM nilM)) (consO (upF (lstM nilM)) nilG)))))
  (seqM (forM (nameT 4) (seqM (asgM (nameT 5) (upR (m2 ixD (vM 0) (vM 4))))
  (seqM (asgM (nameT 6) (upF (m2 modD (callM F_lw_mix (consM (vM 5) (consM (kM (.int 5)) nilM))) (kM (.int 3)))))
  (seqM (asgM (nameT 7) (upF (mA lenD (consM (m2 ixD (callM F_lw_parts (consM (m2 ixD (vM 3) (vM 6)) (consM (m2 ixD (vM 1) (vM 6)) nilM))) (kM (.int 0))) nilM))))
  (seqM (asgM (nameT 8) (upR (m2 ixD (lstM (consM (kM (.str [115, 105, 103, 110])) (consM (kM (.str [115, 105, 103, 110])) (consM (kM (.str [105, 110, 107])) (consM (kM (.str [101, 110, 100])) (consM (kM (.str [97, 110, 101, 119])) (consM (kM (.str [115, 105, 103, 110])) nilM))))))) (m2 modD (callM F_lw_mix (consM (vM 5) (consM (kM (.int 6)) nilM))) (kM (.int 6))))))
  (seqM (asgM (nameT 9) (upR (m2 ixD (lstM (consM (kM (.str [])) (consM (m2 ixD (kM (.str [97, 98, 99])) (m2 modD (callM F_lw_mix (consM (vM 5) (consM (kM (.int 7)) nilM))) (kM (.int 3)))) nilM))) (mA intD (consM (orM (m2 eqD (vM 8) (kM (.str [115, 105, 103, 110]))) (m2 eqD (vM 8) (kM (.str [105, 110, 107])))) nilM)))))
  (seqM (exprM (appL (idxL (vL 3) (vM 6)) (tupM (consM (vM 4) (consM (vM 8) (consM (vM 9) nilM))))))
  (seqM (asgM (tupT (consT (nameT 10) (consT (nameT 11) nilT))) (upF (coldM (callM F_lw_parts (consM (m2 ixD (vM 3) (vM 6)) (consM (m2 ixD (vM 1) (vM 6)) nilM))))))
  (seqM (ifGM (notG (truG (callG F_lw_parts_right (consG (methM 12 "put" (idxL (vL 2) (vM 6)) F_Maker_put (consM (m2 ixD (m2 ixD (vM 3) (vM 6)) (m1 negD (kM (.int 1)))) nilM)) (consG (upF (coldM (slM (vM 10) (soM (vM 7)) noM))) nilG))))) (seqM (retM (upF (kM (.bl false)))) skipM) skipM)
  skipM)))))))) [4, 5, 6, 7, 8, 9, 10, 11] (rng1M (mA lenD (consM (slM (vM 0) noM (soM (kM (.int 40)))) nilM))))
  (frzM 3 (frzM 2 (seqM (forM (nameT 6) (seqM (ifM (notB (truM (callM F_lw_letters_right (consM (coldM (lookM 12 "open_letters" (m2 ixD (vM 2) (vM 6)) F_Maker_open_letters nilM)) (consM (m2 ixD (callM F_lw_parts (consM (m2 ixD (vM 3) (vM 6)) (consM (m2 ixD (vM 1) (vM 6)) nilM))) (kM (.int 1))) nilM))))) (seqM (retM (upF (kM (.bl false)))) skipM) skipM)
  skipM) [6] (rng1M (kM (.int 3))))
  (seqM (retM (upF (kM (.bl true)))) skipM)))))))
def F_lw_by_turns : FM := runM 13 [true, true] m_lw_by_turns
def m_law : SM := (seqM (asgM (nameT 1) (upF (callM F_lw_cell (consM (vM 0) (consM (kM (.int 0)) nilM)))))
  (seqM (asgM (nameT 2) (upF (callM F_lw_bad_most (consM (vM 1) nilM))))
  (seqM (asgM (nameT 3) (upF (slM (kM (.str [119, 101, 97, 118, 101])) noM (soM (m2 modD (callM F_lw_mix (consM (vM 1) (consM (kM (.int 3)) nilM))) (kM (.int 6)))))))
  (seqM (asgM (nameT 4) (upF (m2 addD (vM 3) (kM (.str [126, 126])))))
  (seqM (asgM (nameT 5) (upR (m2 ixD (lstM (consM (kM (.int 1)) (consM (kM (.int 200)) (consM (kM (.int 7)) nilM)))) (m2 modD (callM F_lw_mix (consM (vM 1) (consM (kM (.int 4)) nilM))) (kM (.int 3))))))
  (seqM (asgM (nameT 6) (upF (coldM (lstM (consM (callM F_lw_made (consM (vM 2) nilM)) (consM (callM F_lw_asked (consM (vM 3) (consM (vM 2) nilM))) (consM (callM F_lw_asked (consM (vM 4) (consM (vM 2) nilM))) (consM (callM F_lw_asked (consM (kM .non) (consM (vM 2) nilM))) nilM))))))))
  (seqM (ifM (bM (m2 neD (vM 6) (m2 mulD (lstM (consM (tupM (consM (kM (.str [115, 105, 122, 101])) (consM (kM (.int 0)) nilM))) nilM)) (kM (.int 4))))) (seqM (retM (upF (kM (.bl false)))) skipM) skipM)
  (seqM (ifM (orB (bM (m2 neD (callVM F_lw_asked (consM (vM 4) (consM (vM 5) nilM))) (tupM (consM (kM (.str [115, 105, 103, 110])) (consM (mA lenD (consM (vM 3) nilM)) nilM))))) (bM (m2 neD (callVM F_lw_asked (consM (coldM (lstM (consM (vM 3) nilM))) (consM (vM 5) nilM))) (tupM (consM (kM (.str [115, 105, 103, 110])) (consM (kM (.int 0)) nilM)))))) (seqM (retM (upF (kM (.bl false)))) skipM) skipM)
  (seqM (ifM (orB (bM (m2 neD (callVM F_lw_asked (consM (vM 3) (consM (vM 5) nilM))) (tupM (consM (kM (.str [116, 111, 108, 100])) (consM (kM (.int 0)) nilM))))) (bM (m2 neD (callVM F_lw_made (consM (vM 5) nilM)) (tupM (consM (kM (.str [116, 111, 108, 100])) (consM (kM (.int 0)) nilM)))))) (seqM (retM (upF (kM (.bl false)))) skipM) skipM)
  (seqM (retM (upF (callM F_lw_by_turns (consM (vM 0) (consM (coldM (lstM (consM (m2 addD (kM (.int 1)) (m2 modD (callM F_lw_mix (consM (vM 1) (consM (kM (.int 9)) nilM))) (kM (.int 3)))) (consM (kM (.int 200)) (consM (kM (.int 1)) nilM))))) nilM))))) skipM))))))))))
def F_law : FM := runM 7 [true] m_law
end LW

namespace LW
open PySem L2 LI OW
abbrev eLs := eL false (e4 eS eS eS eI)
abbrev eLt := e4 eS eS eS eI
abbrev ePt := e2 eLs eS
abbrev ePs := eL false ePt
abbrev eIm := e3 eI eS eS
def e_Reader (o : Bool) (x : OReader) : D := .obj o 11 ["kept", "place"] [eS x.kept, eI x.place]
def e_Maker (o : Bool) (x : OMaker) : D := .obj o 12 ["most", "row", "ink", "ground", "stale", "more"] [eI x.most, (eL o eLt) x.row, eS x.ink, eS x.ground, eB x.stale, eB x.more]
instance {o : Bool} : Ng (e_Maker o) := ⟨fun _ => rfl⟩
instance {o : Bool} : Ic (e_Maker o) (e_Maker false) := ⟨fun x => by simp [e_Maker, eL, Ic.ic, icL]⟩
instance : Fz (e_Maker false) := ⟨fun x => by simp [e_Maker, Fz.fz, fzL]⟩
def e_Maker__row (x : OMaker) : D := .obj true 12 ["most", "row", "ink", "ground", "stale", "more"] [eI x.most, eLs x.row, eS x.ink, eS x.ground, eB x.stale, eB x.more]
theorem L_is_sign  (thing : Ts) {r : Bool} (h : t_is_sign thing = some r) : F_is_sign [eS thing] = some (eB r, (fun _ => [eS thing]) r) := by
  have hb : Bk (Qf eB [true] (fun _ => [eS thing])) m_is_sign [eS thing] _ := (b_retI (eg_f (x_and (x_isK kit_str_str (x_v eS thing rfl)) (x_and (x_m2 (o2_eq (e' := eI) (by decide)) (x_a1 o1_lenS (x_v eS thing rfl)) (x_k eI (1) rfl)) (x_chT o2_leS o2_leS (x_k eS [' '] rfl) (x_v eS thing rfl) (x_k eS ['}'] rfl))))) (fun u3_ => ⟨.inl rfl, rfl⟩))
  refine run_T (n := 1) (kp := [true]) (m := m_is_sign) (ds := [eS thing]) rfl hb ?_
  first
    | (simp -implicitDefEqProofs only [t_is_sign, Option.bind_assoc, Option.bind_some, bind_same] at h ⊢; exact h)
    | (simp -implicitDefEqProofs only [t_is_sign, Option.bind_assoc, Option.bind_some, bind_same] at h; exact h)
    | exact h
    | (simp [t_is_sign] at h ⊢; exact h)
theorem T_is_sign : Tf (τ := Ts × Unit) (fun t => [eS t.1]) eB F_is_sign (fun t => t_is_sign t.1) := fun t r h => ⟨_, L_is_sign t.1 h⟩
theorem L_is_colour  (thing : Ts) {r : Bool} (h : t_is_colour thing = some r) : F_is_colour [eS thing] = some (eB r, (fun _ => [eS thing]) r) := by
  have hb : Bk (Qf eB [true] (fun _ => [eS thing])) m_is_colour [eS thing] _ := (b_retI (eg_f (x_and (x_isK kit_str_str (x_v eS thing rfl)) (x_and (x_m2 (o2_eq (e' := eI) (by decide)) (x_a1 o1_lenS (x_v eS thing rfl)) (x_k eI (1) rfl)) (x_m2 o2_in (x_v eS thing rfl) (x_k eS ['a', 'b', 'c', 'd', 'e', 'f', 'g', 'h', '.'] rfl))))) (fun u3_ => ⟨.inl rfl, rfl⟩))
  refine run_T (n := 1) (kp := [true]) (m := m_is_colour) (ds := [eS thing]) rfl hb ?_
  first
    | (simp -implicitDefEqProofs only [t_is_colour, Option.bind_assoc, Option.bind_some, bind_same] at h ⊢; exact h)
    | (simp -implicitDefEqProofs only [t_is_colour, Option.bind_assoc, Option.bind_some, bind_same] at h; exact h)
    | exact h
    | (simp [t_is_colour] at h ⊢; exact h)
theorem T_is_colour : Tf (τ := Ts × Unit) (fun t => [eS t.1]) eB F_is_colour (fun t => t_is_colour t.1) := fun t r h => ⟨_, L_is_colour t.1 h⟩
theorem L_checked__X1  (text : An) {r : (Exn ⊕ Unit)} (h : t_checked__X1 text = some r) : ∃ ds', F_checked__X1 [eA text] = some (exR eU ds' r) := by
  have hb : Bk (QfX eU [true] (fun _ => [eA text])) m_checked__X1 [eA text, .gone, .gone] _ := (b_ifT (et_not (et_tru (x_isiA (x_v eA text rfl)))) (b_raise1 (k := fun x2_ => (.inl (1, [("at", an eI x2_)]) : (Exn ⊕ Unit))) (x_k eI (0) rfl) (fun x2_ => ⟨rfl, rfl⟩)) (b_forR (fun (s4_ : Unit) => [eA text, .gone, .gone]) () (fun (s4_ : Unit) (x5_ : (Int × Ts)) => [eA text, eI x5_.1, eS x5_.2]) (ei_enumS (x_dec (e := eS) (x_v eA text rfl))) rfl (fun _ _ => rfl) (fun (s4_ : Unit) (x5_ : (Int × Ts)) => (b_ifT (et_and (et_not (et_tru (x_call T_is_sign (ea_cons (x_v eS x5_.2 rfl) ea_nil)))) (et_b (x_m2 o2_nin (x_v eS x5_.2 rfl) (x_k eS ['\n', '\t'] rfl)))) (b_raise1 (k := fun x8_ => (.rt (.inl (1, [("at", an eI x8_)]) : (Exn ⊕ Unit)) : (St Unit (Exn ⊕ Unit)))) (x_v eI x5_.1 rfl) (fun x8_ => ⟨rfl, ⟨rfl, rfl⟩⟩)) (b_nil (t := (.nx () : (St Unit (Exn ⊕ Unit)))) ⟨rfl, rfl⟩))) (fun (s4_ : Unit) => (b_nil (t := (.inr () : (Exn ⊕ Unit))) ⟨.inr ⟨rfl, rfl⟩, rfl⟩))))
  refine run_TX (n := 3) (kp := [true]) (m := m_checked__X1) (ds := [eA text]) rfl hb ?_
  first
    | (simp -implicitDefEqProofs only [t_checked__X1, Option.bind_assoc, Option.bind_some, bind_same] at h ⊢; exact h)
    | (simp -implicitDefEqProofs only [t_checked__X1, Option.bind_assoc, Option.bind_some, bind_same] at h; exact h)
    | exact h
    | (simp [t_checked__X1] at h ⊢; exact h)
theorem T_checked__X1 : Tfx (τ := An × Unit) (fun t => [eA t.1]) eU F_checked__X1 (fun t => t_checked__X1 t.1) := fun t r h => L_checked__X1 t.1 h
theorem L_sign_item  (place : Int) (sign : Ts) {r : Im} (h : t_sign_item place sign = some r) : F_sign_item [eI place, eS sign] = some (eIm r, (fun _ => [eI place, eS sign]) r) := by
  have hb : Bk (Qf eIm [true, true] (fun _ => [eI place, eS sign])) m_sign_item [eI place, eS sign] _ := (b_ifT (et_b (x_m1 (o1_inK (kt := kt_ENDS) rfl) (x_v eS sign rfl))) (b_retI (eg_f (x_tup (f := eIm) (fun t : Int × Ts × Ts × Unit => (t.1, t.2.1, t.2.2.1)) (ea_cons (x_v eI place rfl) (ea_cons (x_m1 (o1_ixK (kt := kt_ENDS) rfl) (x_v eS sign rfl)) (ea_cons (x_k eS ([] : Ts) rfl) ea_nil))) (fun _ => rfl) (fun _ => (by decide : 3 ≤ LIM)))) (fun u2_ => ⟨rfl, ⟨.inl rfl, rfl⟩⟩)) (b_ret (k := fun (u3_ : Im) => u3_) (eg_f (x_tup (f := eIm) (fun t : Int × Ts × Ts × Unit => (t.1, t.2.1, t.2.2.1)) (ea_cons (x_v eI place rfl) (ea_cons (x_k eS ['s', 'i', 'g', 'n'] rfl) (ea_cons (x_v eS sign rfl) ea_nil))) (fun _ => rfl) (fun _ => (by decide : 3 ≤ LIM)))) (fun u3_ => ⟨.inl rfl, rfl⟩)))
  refine run_T (n := 2) (kp := [true, true]) (m := m_sign_item) (ds := [eI place, eS sign]) rfl hb ?_
  first
    | (simp -implicitDefEqProofs only [t_sign_item, Option.bind_assoc, Option.bind_some, bind_same] at h ⊢; exact h)
    | (simp -implicitDefEqProofs only [t_sign_item, Option.bind_assoc, Option.bind_some, bind_same] at h; exact h)
    | exact h
    | (simp [t_sign_item] at h ⊢; exact h)
theorem T_sign_item : Tf (τ := Int × Ts × Unit) (fun t => [eI t.1, eS t.2.1]) eIm F_sign_item (fun t => t_sign_item t.1 t.2.1) := fun t r h => ⟨_, L_sign_item t.1 t.2.1 h⟩
theorem L_begins_mark  (text : Ts) {r : Bool} (h : t_begins_mark text = some r) : F_begins_mark [eS text] = some (eB r, (fun _ => [eS text]) r) := by
  have hb : Bk (Qf eB [true] (fun _ => [eS text])) m_begins_mark [eS text] _ := (b_ifT (et_b (x_m2 o2_in (x_v eS text rfl) (x_tup (f := (eV eS)) (fun t : Ts × Ts × Unit => ([t.1, t.2.1] : (List Ts))) (ea_cons (x_k eS ['['] rfl) (ea_cons (x_k eS ['[', '/'] rfl) ea_nil)) (fun _ => rfl) (fun _ => (by decide : 2 ≤ LIM))))) (b_ret (k := fun (u1_ : Bool) => u1_) (eg_f (x_k eB true rfl)) (fun u1_ => ⟨rfl, ⟨.inl rfl, rfl⟩⟩)) (b_ifT (et_and (et_b (x_m2 (o2_eq (e' := eI) (by decide)) (x_a1 o1_lenS (x_v eS text rfl)) (x_k eI (2) rfl))) (et_b (x_m2 (o2_eq (e' := eS) (by decide)) (x_m2 o2_ixS (x_v eS text rfl) (x_k eI (0) rfl)) (x_k eS ['['] rfl)))) (b_retI (eg_f (x_call T_is_colour (ea_cons (x_m2 o2_ixS (x_v eS text rfl) (x_k eI (1) rfl)) ea_nil))) (fun u6_ => ⟨rfl, ⟨.inl rfl, rfl⟩⟩)) (b_retI (eg_f (x_and (x_m2 (o2_eq (e' := eI) (by decide)) (x_a1 o1_lenS (x_v eS text rfl)) (x_k eI (3) rfl)) (x_and (x_m2 (o2_eq (e' := eS) (by decide)) (x_sl (x_v eS text rfl) eo_no (eo_so (x_k eI (2) rfl))) (x_k eS ['[', '/'] rfl)) (x_call T_is_colour (ea_cons (x_m2 o2_ixS (x_v eS text rfl) (x_k eI (2) rfl)) ea_nil))))) (fun u12_ => ⟨.inl rfl, rfl⟩))))
  refine run_T (n := 1) (kp := [true]) (m := m_begins_mark) (ds := [eS text]) rfl hb ?_
  first
    | (simp -implicitDefEqProofs only [t_begins_mark, Option.bind_assoc, Option.bind_some, bind_same] at h ⊢; exact h)
    | (simp -implicitDefEqProofs only [t_begins_mark, Option.bind_assoc, Option.bind_some, bind_same] at h; exact h)
    | exact h
    | (simp [t_begins_mark] at h ⊢; exact h)
theorem T_begins_mark : Tf (τ := Ts × Unit) (fun t => [eS t.1]) eB F_begins_mark (fun t => t_begins_mark t.1) := fun t r h => ⟨_, L_begins_mark t.1 h⟩
theorem L_mark_item  (place : Int) (text : Ts) {r : (Option Im)} (h : t_mark_item place text = some r) : F_mark_item [eI place, eS text] = some ((eO eIm) r, (fun _ => [eI place, eS text]) r) := by
  have hb : Bk (Qf (eO eIm) [true, true] (fun _ => [eI place, eS text])) m_mark_item [eI place, eS text] _ := (b_ifT (et_b (x_m2 (o2_eq (e' := eS) (by decide)) (x_v eS text rfl) (x_k eS ['[', '['] rfl))) (b_ret (k := fun (u1_ : (Option Im)) => u1_) (eg_f (x_map (e := eIm) (f := (eO eIm)) some (fun _ => rfl) (x_tup (f := eIm) (fun t : Int × Ts × Ts × Unit => (t.1, t.2.1, t.2.2.1)) (ea_cons (x_v eI place rfl) (ea_cons (x_k eS ['s', 'i', 'g', 'n'] rfl) (ea_cons (x_k eS ['['] rfl) ea_nil))) (fun _ => rfl) (fun _ => (by decide : 3 ≤ LIM))))) (fun u1_ => ⟨rfl, ⟨.inl rfl, rfl⟩⟩)) (b_ifT (et_b (x_m2 (o2_eq (e' := eS) (by decide)) (x_v eS text rfl) (x_k eS ['[', ']'] rfl))) (b_ret (k := fun (u2_ : (Option Im)) => u2_) (eg_f (x_map (e := eIm) (f := (eO eIm)) some (fun _ => rfl) (x_tup (f := eIm) (fun t : Int × Ts × Ts × Unit => (t.1, t.2.1, t.2.2.1)) (ea_cons (x_v eI place rfl) (ea_cons (x_k eS ['p', 'l', 'a', 'i', 'n'] rfl) (ea_cons (x_k eS ([] : Ts) rfl) ea_nil))) (fun _ => rfl) (fun _ => (by decide : 3 ≤ LIM))))) (fun u2_ => ⟨rfl, ⟨.inl rfl, rfl⟩⟩)) (b_ifT (et_and (et_b (x_m2 (o2_eq (e' := eI) (by decide)) (x_a1 o1_lenS (x_v eS text rfl)) (x_k eI (3) rfl))) (et_and (et_b (x_m2 (o2_eq (e' := eS) (by decide)) (x_m2 o2_ixS (x_v eS text rfl) (x_k eI (0) rfl)) (x_k eS ['['] rfl))) (et_and (et_tru (x_call T_is_colour (ea_cons (x_m2 o2_ixS (x_v eS text rfl) (x_k eI (1) rfl)) ea_nil))) (et_b (x_m2 (o2_eq (e' := eS) (by decide)) (x_m2 o2_ixS (x_v eS text rfl) (x_k eI (2) rfl)) (x_k eS [']'] rfl)))))) (b_retI (eg_f (x_map (e := eIm) (f := (eO eIm)) some (fun _ => rfl) (x_tup (f := eIm) (fun t : Int × Ts × Ts × Unit => (t.1, t.2.1, t.2.2.1)) (ea_cons (x_v eI place rfl) (ea_cons (x_k eS ['i', 'n', 'k'] rfl) (ea_cons (x_m2 o2_ixS (x_v eS text rfl) (x_k eI (1) rfl)) ea_nil))) (fun _ => rfl) (fun _ => (by decide : 3 ≤ LIM))))) (fun u12_ => ⟨rfl, ⟨.inl rfl, rfl⟩⟩)) (b_ifT (et_and (et_b (x_m2 (o2_eq (e' := eI) (by decide)) (x_a1 o1_lenS (x_v eS text rfl)) (x_k eI (4) rfl))) (et_and (et_b (x_m2 (o2_eq (e' := eS) (by decide)) (x_sl (x_v eS text rfl) eo_no (eo_so (x_k eI (2) rfl))) (x_k eS ['[', '/'] rfl))) (et_and (et_tru (x_call T_is_colour (ea_cons (x_m2 o2_ixS (x_v eS text rfl) (x_k eI (2) rfl)) ea_nil))) (et_b (x_m2 (o2_eq (e' := eS) (by decide)) (x_m2 o2_ixS (x_v eS text rfl) (x_k eI (3) rfl)) (x_k eS [']'] rfl)))))) (b_retI (eg_f (x_map (e := eIm) (f := (eO eIm)) some (fun _ => rfl) (x_tup (f := eIm) (fun t : Int × Ts × Ts × Unit => (t.1, t.2.1, t.2.2.1)) (ea_cons (x_v eI place rfl) (ea_cons (x_k eS ['g', 'r', 'o', 'u', 'n', 'd'] rfl) (ea_cons (x_m2 o2_ixS (x_v eS text rfl) (x_k eI (2) rfl)) ea_nil))) (fun _ => rfl) (fun _ => (by decide : 3 ≤ LIM))))) (fun u22_ => ⟨rfl, ⟨.inl rfl, rfl⟩⟩)) (b_ret (k := fun (u23_ : (Option Im)) => u23_) (eg_f (x_map (e := eU) (f := (eO eIm)) (fun _ => none) (fun _ => rfl) (x_k eU () rfl))) (fun u23_ => ⟨.inl rfl, rfl⟩))))))
  refine run_T (n := 2) (kp := [true, true]) (m := m_mark_item) (ds := [eI place, eS text]) rfl hb ?_
  first
    | (simp -implicitDefEqProofs only [t_mark_item, Option.bind_assoc, Option.bind_some, bind_same] at h ⊢; exact h)
    | (simp -implicitDefEqProofs only [t_mark_item, Option.bind_assoc, Option.bind_some, bind_same] at h; exact h)
    | exact h
    | (simp [t_mark_item] at h ⊢; exact h)
theorem T_mark_item : Tf (τ := Int × Ts × Unit) (fun t => [eI t.1, eS t.2.1]) (eO eIm) F_mark_item (fun t => t_mark_item t.1 t.2.1) := fun t r h => ⟨_, L_mark_item t.1 t.2.1 h⟩
theorem L_Reader_init   {r : OReader} (h : t_Reader_init  = some r) : F_Reader_init [.obj true 11 [] []] = some ((fun _ => .non) r, (fun r : OReader => e_Reader true r :: []) r) := by
  have hb : Bk (Qf (fun _ => .non) [true] (fun r : OReader => e_Reader true r :: [])) m_Reader_init [(fun p_ : Unit => .obj true 11 [] []) ()] _ := (b_fld (fun (u1_ : Ts) => [(fun p_ : Ts => .obj true 11 ["kept"] [eS p_]) u1_]) (eg_f (x_k eS ([] : Ts) rfl)) (fun _ => rfl) (fun (u1_ : Ts) => (b_fld (fun (u2_ : Int) => [e_Reader true ({ kept := u1_, place := u2_ : OReader })]) (eg_f (x_k eI (0) rfl)) (fun _ => rfl) (fun (u2_ : Int) => (b_nil (t := ({ kept := u1_, place := u2_ : OReader })) ⟨.inr ⟨rfl, rfl⟩, rfl⟩)))))
  refine run_T (n := 1) (kp := [true]) (m := m_Reader_init) (ds := [.obj true 11 [] []]) rfl hb ?_
  first
    | (simp -implicitDefEqProofs only [t_Reader_init, Option.bind_assoc, Option.bind_some, bind_same] at h ⊢; exact h)
    | (simp -implicitDefEqProofs only [t_Reader_init, Option.bind_assoc, Option.bind_some, bind_same] at h; exact h)
    | exact h
    | (simp [t_Reader_init] at h ⊢; exact h)
theorem T_Reader_init : Tn (τ := Unit) 11 (fun t => []) (e_Reader true) F_Reader_init (fun t => t_Reader_init ) := fun t r h => ⟨_, L_Reader_init  h⟩
theorem L_Reader_told  (self : OReader) (many : Int) {r : ((List Im) × OReader)} (h : t_Reader_told self many = some r) : F_Reader_told [(e_Reader true) self, eI many] = some ((fun r : ((List Im) × OReader) => (eL true eIm) r.1) r, (fun r : ((List Im) × OReader) => e_Reader true r.2 :: [eI many]) r) := by
  have hb : Bk (Qf (fun r : ((List Im) × OReader) => (eL true eIm) r.1) [true, true] (fun r : ((List Im) × OReader) => e_Reader true r.2 :: [eI many])) m_Reader_told [(e_Reader true) self, eI many, .gone, .gone] _ := (b_asg (fun (found : (List Im)) => [(e_Reader true) self, eI many, (eL true eIm) found, .gone]) (eg_f (x_lst (f := (eL true eIm)) (fun t : Unit => ([] : (List Im))) ea_nil (fun _ => rfl) (fun _ => (by decide : 0 ≤ LIM)))) (fun _ => rfl) (fun (found : (List Im)) => (b_for (fun (s2_ : (OReader × (List Im))) => [(e_Reader true) s2_.1, eI many, (eL true eIm) s2_.2, .gone]) (self, found) (fun (s2_ : (OReader × (List Im))) (sign : Ts) => [(e_Reader true) s2_.1, eI many, (eL true eIm) s2_.2, eS sign]) (ei_it (x_sl (ev_get (e := eS) (x := self.kept) rfl) eo_no (eo_so (x_v eI many rfl)))) rfl (fun _ _ => rfl) (fun (s2_ : (OReader × (List Im))) (sign : Ts) => (b_expr (eg_app (a := eIm) (xs := s2_.2) (env := fun r_ => [(e_Reader true) s2_.1, eI many, (eL true eIm) r_, eS sign]) rfl (x_call T_sign_item (ea_cons (ev_get (e := eI) (x := s2_.1.place) rfl) (ea_cons (x_v eS sign rfl) ea_nil))) (fun _ => rfl)) (fun (u4_ : (List Im)) => (b_fld (fun (u5_ : Int) => [(e_Reader true) ({ s2_.1 with place := u5_ }), eI many, (eL true eIm) u4_, eS sign]) (eg_f (x_m2 o2_addI (ev_get (e := eI) (x := s2_.1.place) rfl) (x_k eI (1) rfl))) (fun _ => rfl) (fun (u5_ : Int) => (b_nil (t := ({ s2_.1 with place := u5_ }, u4_)) ⟨rfl, rfl⟩)))))) (fun (s2_ : (OReader × (List Im))) => (b_fld (fun (u6_ : Ts) => [(e_Reader true) ({ s2_.1 with kept := u6_ }), eI many, (eL true eIm) s2_.2, .gone]) (eg_f (x_sl (ev_get (e := eS) (x := s2_.1.kept) rfl) (eo_so (x_v eI many rfl)) eo_no)) (fun _ => rfl) (fun (u6_ : Ts) => (b_ret (k := fun (u7_ : (List Im)) => (((u7_, { s2_.1 with kept := u6_ })) : ((List Im) × OReader))) (eg_mv (eL true eIm) s2_.2 [(e_Reader true) ({ s2_.1 with kept := u6_ }), eI many, .gone, .gone] rfl rfl) (fun u7_ => ⟨.inl rfl, rfl⟩))))))))
  refine run_T (n := 4) (kp := [true, true]) (m := m_Reader_told) (ds := [(e_Reader true) self, eI many]) rfl hb ?_
  first
    | (simp -implicitDefEqProofs only [t_Reader_told, Option.bind_assoc, Option.bind_some, bind_same] at h ⊢; exact h)
    | (simp -implicitDefEqProofs only [t_Reader_told, Option.bind_assoc, Option.bind_some, bind_same] at h; exact h)
    | exact h
    | (simp [t_Reader_told] at h ⊢; exact h)
theorem T_Reader_told : Tm (τ := Int × Unit) (e_Reader true) (fun t => [eI t.1]) (fun r : ((List Im) × OReader) => (eL true eIm) r.1) (fun r => r.2) F_Reader_told (fun x t => t_Reader_told x t.1) := fun x t r h => ⟨_, L_Reader_told x t.1 h⟩
theorem L_Reader_take  (self : OReader) (sign : Ts) {r : ((List Im) × OReader)} (h : t_Reader_take self sign = some r) : F_Reader_take [(e_Reader true) self, eS sign] = some ((fun r : ((List Im) × OReader) => (eL true eIm) r.1) r, (fun r : ((List Im) × OReader) => e_Reader true r.2 :: [eS sign]) r) := by
  have hb : Bk (Qf (fun r : ((List Im) × OReader) => (eL true eIm) r.1) [true, true] (fun r : ((List Im) × OReader) => e_Reader true r.2 :: [eS sign])) m_Reader_take [(e_Reader true) self, eS sign, .gone, .gone] _ := (b_asg (fun (whole : (Option Im)) => [(e_Reader true) self, eS sign, (eO eIm) whole, .gone]) (eg_f (x_call T_mark_item (ea_cons (ev_get (e := eI) (x := self.place) rfl) (ea_cons (x_m2 o2_catS (ev_get (e := eS) (x := self.kept) rfl) (x_v eS sign rfl)) ea_nil)))) (fun _ => rfl) (fun (whole : (Option Im)) => (b_ifT (et_b (x_m2 o2_nisN (x_v (eO eIm) whole rfl) (x_k eU () rfl))) (b_fld (fun (u4_ : Int) => [(e_Reader true) ({ self with place := u4_ }), eS sign, (eO eIm) whole, .gone]) (eg_f (x_m2 o2_addI (x_m2 o2_addI (ev_get (e := eI) (x := self.place) rfl) (x_a1 o1_lenS (ev_get (e := eS) (x := self.kept) rfl))) (x_k eI (1) rfl))) (fun _ => rfl) (fun (u4_ : Int) => (b_fld (fun (u5_ : Ts) => [(e_Reader true) ({ { self with place := u4_ } with kept := u5_ }), eS sign, (eO eIm) whole, .gone]) (eg_f (x_k eS ([] : Ts) rfl)) (fun _ => rfl) (fun (u5_ : Ts) => (b_ret (k := fun (u7_ : (List Im)) => (((u7_, { self with place := u4_, kept := u5_ })) : ((List Im) × OReader))) (eg_f (x_lst (f := (eL true eIm)) (fun t : Im × Unit => ([t.1] : (List Im))) (ea_cons (x_un (x_v (eO eIm) whole rfl)) ea_nil) (fun _ => rfl) (fun _ => (by decide : 1 ≤ LIM)))) (fun u7_ => ⟨rfl, ⟨.inl rfl, rfl⟩⟩)))))) (b_ifT (et_tru (x_call T_begins_mark (ea_cons (x_m2 o2_catS (ev_get (e := eS) (x := self.kept) rfl) (x_v eS sign rfl)) ea_nil))) (b_fld (fun (u9_ : Ts) => [(e_Reader true) ({ self with kept := u9_ }), eS sign, (eO eIm) whole, .gone]) (eg_f (x_m2 o2_catS (ev_get (e := eS) (x := self.kept) rfl) (x_v eS sign rfl))) (fun _ => rfl) (fun (u9_ : Ts) => (b_ret (k := fun (u10_ : (List Im)) => (((u10_, { self with kept := u9_ })) : ((List Im) × OReader))) (eg_f (x_lst (f := (eL true eIm)) (fun t : Unit => ([] : (List Im))) ea_nil (fun _ => rfl) (fun _ => (by decide : 0 ≤ LIM)))) (fun u10_ => ⟨rfl, ⟨.inl rfl, rfl⟩⟩)))) (b_asg (fun (u13_ : ((List Im) × OReader)) => [(e_Reader true) u13_.2, eS sign, (eO eIm) whole, (eL true eIm) u13_.1]) (eg_meth (x := self) (env := fun r12_ => [(e_Reader true) r12_.2, eS sign, (eO eIm) whole, .gone]) (T_Reader_told) rfl rfl (ea_cons (x_a1 o1_lenS (ev_get (e := eS) (x := self.kept) rfl)) ea_nil) (fun _ => rfl)) (fun _ => rfl) (fun (u13_ : ((List Im) × OReader)) => (b_fld (fun (u14_ : Ts) => [(e_Reader true) ({ u13_.2 with kept := u14_ }), eS sign, (eO eIm) whole, (eL true eIm) u13_.1]) (eg_r (x_v eS sign rfl)) (fun _ => rfl) (fun (u14_ : Ts) => (b_join (fun (s15_ : (OReader × (List Im))) => [(e_Reader true) s15_.1, eS sign, (eO eIm) whole, (eL true eIm) s15_.2]) (et_b (x_m2 (o2_ne (e' := eS) (by decide)) (x_v eS sign rfl) (x_k eS ['['] rfl))) (b_expr (eg_ext (a := eIm) (xs := fun r18_ => u13_.1) (ys := fun r18_ => r18_.1) (env := fun p_ => [(e_Reader true) p_.1.2, eS sign, (eO eIm) whole, (eL true eIm) p_.2]) rfl (eg_meth (x := { u13_.2 with kept := u14_ }) (env := fun r17_ => [(e_Reader true) r17_.2, eS sign, (eO eIm) whole, (eL true eIm) u13_.1]) (T_Reader_told) rfl rfl (ea_cons (x_k eI (1) rfl) ea_nil) (fun _ => rfl)) (fun _ => rfl) (fun _ => rfl) (fun _ => rfl)) (fun (u20_ : (((List Im) × OReader) × (List Im))) => (b_nil (t := (u20_.1.2, u20_.2)) ⟨rfl, rfl⟩))) (b_nil (t := ({ u13_.2 with kept := u14_ }, u13_.1)) ⟨rfl, rfl⟩) (fun (s15_ : (OReader × (List Im))) => (b_ret (k := fun (u21_ : (List Im)) => (u21_, s15_.1)) (eg_mv (eL true eIm) s15_.2 [(e_Reader true) s15_.1, eS sign, (eO eIm) whole, .gone] rfl rfl) (fun u21_ => ⟨.inl rfl, rfl⟩))))))))))))
  refine run_T (n := 4) (kp := [true, true]) (m := m_Reader_take) (ds := [(e_Reader true) self, eS sign]) rfl hb ?_
  first
    | (simp -implicitDefEqProofs only [t_Reader_take, Option.bind_assoc, Option.bind_some, bind_same] at h ⊢; exact h)
    | (simp -implicitDefEqProofs only [t_Reader_take, Option.bind_assoc, Option.bind_some, bind_same] at h; exact h)
    | exact h
    | (simp [t_Reader_take] at h ⊢; exact h)
theorem T_Reader_take : Tm (τ := Ts × Unit) (e_Reader true) (fun t => [eS t.1]) (fun r : ((List Im) × OReader) => (eL true eIm) r.1) (fun r => r.2) F_Reader_take (fun x t => t_Reader_take x t.1) := fun x t r h => ⟨_, L_Reader_take x t.1 h⟩
theorem L_Reader_feed__X1  (self : OReader) (piece : An) {r : ((Exn ⊕ (List Im)) × OReader)} (h : t_Reader_feed__X1 self piece = some r) : F_Reader_feed__X1 [(e_Reader true) self, eA piece] = some (exR (eL true eIm) ((fun r : OReader => e_Reader true r :: [eA piece]) r.2) r.1) := by
  have hb : Bk (QfXS (eL true eIm) [true, true] (fun r : OReader => e_Reader true r :: [eA piece])) m_Reader_feed__X1 [(e_Reader true) self, eA piece, .gone, .gone] _ := (b_exprE (f := (fun (r1_ : (Exn ⊕ Unit)) (x3_ : Exn) => ((.inl x3_ : Exn ⊕ (List Im)), self))) (x_callX T_checked__X1 (ea_cons (x_v eA piece rfl) ea_nil)).eg (fun (r1_ : (Exn ⊕ Unit)) (y2_ : Unit) => (b_asg (fun (found : (List Im)) => [(e_Reader true) self, eA piece, (eL true eIm) found, .gone]) (eg_f (x_lst (f := (eL true eIm)) (fun t : Unit => ([] : (List Im))) ea_nil (fun _ => rfl) (fun _ => (by decide : 0 ≤ LIM)))) (fun _ => rfl) (fun (found : (List Im)) => (b_for (fun (s5_ : (OReader × (List Im))) => [(e_Reader true) s5_.1, eA piece, (eL true eIm) s5_.2, .gone]) (self, found) (fun (s5_ : (OReader × (List Im))) (sign : Ts) => [(e_Reader true) s5_.1, eA piece, (eL true eIm) s5_.2, eS sign]) (ei_it (x_dec (e := eS) (x_v eA piece rfl))) rfl (fun _ _ => rfl) (fun (s5_ : (OReader × (List Im))) (sign : Ts) => (b_expr (eg_ext (a := eIm) (xs := fun r8_ => s5_.2) (ys := fun r8_ => r8_.1) (env := fun p_ => [(e_Reader true) p_.1.2, eA piece, (eL true eIm) p_.2, eS sign]) rfl (eg_meth (x := s5_.1) (env := fun r7_ => [(e_Reader true) r7_.2, eA piece, (eL true eIm) s5_.2, eS sign]) (T_Reader_take) rfl rfl (ea_cons (x_v eS sign rfl) ea_nil) (fun _ => rfl)) (fun _ => rfl) (fun _ => rfl) (fun _ => rfl)) (fun (u10_ : (((List Im) × OReader) × (List Im))) => (b_nil (t := (u10_.1.2, u10_.2)) ⟨rfl, rfl⟩)))) (fun (s5_ : (OReader × (List Im))) => (b_ret (k := fun (u11_ : (List Im)) => ((.inr u11_ : Exn ⊕ (List Im)), s5_.1)) (eg_mv (eL true eIm) s5_.2 [(e_Reader true) s5_.1, eA piece, .gone, .gone] rfl rfl) (fun u11_ => ⟨.inl rfl, rfl⟩))))))) (fun (r1_ : (Exn ⊕ Unit)) (x3_ : Exn) => ⟨rfl, rfl⟩))
  refine run_TXS (n := 4) (kp := [true, true]) (m := m_Reader_feed__X1) (ds := [(e_Reader true) self, eA piece]) rfl hb ?_
  first
    | (simp -implicitDefEqProofs only [t_Reader_feed__X1, Option.bind_assoc, Option.bind_some, bind_same] at h ⊢; exact h)
    | (simp -implicitDefEqProofs only [t_Reader_feed__X1, Option.bind_assoc, Option.bind_some, bind_same] at h; exact h)
    | exact h
    | (simp [t_Reader_feed__X1] at h ⊢; exact h)
theorem T_Reader_feed__X1 : Tmx (τ := An × Unit) (e_Reader true) (fun t => [eA t.1]) (eL true eIm) F_Reader_feed__X1 (fun x t => t_Reader_feed__X1 x t.1) := fun x t r h => ⟨_, L_Reader_feed__X1 x t.1 h⟩
theorem L_Reader_finish  (self : OReader) {r : ((List Im) × OReader)} (h : t_Reader_finish self = some r) : F_Reader_finish [(e_Reader true) self] = some ((fun r : ((List Im) × OReader) => (eL true eIm) r.1) r, (fun r : ((List Im) × OReader) => e_Reader true r.2 :: []) r) := by
  have hb : Bk (Qf (fun r : ((List Im) × OReader) => (eL true eIm) r.1) [true] (fun r : ((List Im) × OReader) => e_Reader true r.2 :: [])) m_Reader_finish [(e_Reader true) self] _ := (b_ret (k := fun (u3_ : ((List Im) × OReader)) => (u3_.1, u3_.2)) (eg_meth (x := self) (env := fun r2_ => [(e_Reader true) r2_.2]) (T_Reader_told) rfl rfl (ea_cons (x_a1 o1_lenS (ev_get (e := eS) (x := self.kept) rfl)) ea_nil) (fun _ => rfl)) (fun u3_ => ⟨.inl rfl, rfl⟩))
  refine run_T (n := 1) (kp := [true]) (m := m_Reader_finish) (ds := [(e_Reader true) self]) rfl hb ?_
  first
    | (simp -implicitDefEqProofs only [t_Reader_finish, Option.bind_assoc, Option.bind_some, bind_same] at h ⊢; exact h)
    | (simp -implicitDefEqProofs only [t_Reader_finish, Option.bind_assoc, Option.bind_some, bind_same] at h; exact h)
    | exact h
    | (simp [t_Reader_finish] at h ⊢; exact h)
theorem T_Reader_finish : Tm (τ := Unit) (e_Reader true) (fun t => []) (fun r : ((List Im) × OReader) => (eL true eIm) r.1) (fun r => r.2) F_Reader_finish (fun x t => t_Reader_finish x ) := fun x t r h => ⟨_, L_Reader_finish x  h⟩
theorem L_items_of__X1  (text : An) {r : (Exn ⊕ (List Im))} (h : t_items_of__X1 text = some r) : ∃ ds', F_items_of__X1 [eA text] = some (exR (eL false eIm) ds' r) := by
  have hb : Bk (QfX (eL false eIm) [true] (fun _ => [eA text])) m_items_of__X1 [eA text, .gone, .gone] _ := (b_asg (fun (reader : OReader) => [eA text, (e_Reader true) reader, .gone]) (eg_f (x_mk T_Reader_init ea_nil)) (fun _ => rfl) (fun (reader : OReader) => (b_setE (f := (fun (r2_ : ((Exn ⊕ (List Im)) × OReader)) (x3_ : Exn) => (.inl x3_ : (Exn ⊕ (List Im))))) (fun (r2_ : ((Exn ⊕ (List Im)) × OReader)) (found : (List Im)) => [eA text, (e_Reader true) r2_.2, (eL true eIm) found]) (eg_methX (x := reader) (env := fun (r1_ : ((Exn ⊕ (List Im)) × OReader)) => [eA text, (e_Reader true) r1_.2, .gone]) T_Reader_feed__X1 rfl rfl (ea_cons (x_v eA text rfl) ea_nil) (fun _ => rfl)) (fun _ _ => rfl) (fun (r2_ : ((Exn ⊕ (List Im)) × OReader)) (found : (List Im)) => (b_frz (ρ2 := [eA text, (e_Reader true) r2_.2, (eL false eIm) found]) (e := (eL true eIm)) (x := found) rfl rfl (b_ret (k := fun (u8_ : ((List Im) × ((List Im) × OReader))) => (.inr u8_.1 : (Exn ⊕ (List Im)))) (eg_cold (ic := icFst) (eg_binV o2_catL (eg_meth (x := r2_.2) (env := fun r5_ => [eA text, (e_Reader true) r5_.2, (eL false eIm) found]) (T_Reader_finish) rfl rfl ea_nil (fun _ => rfl)) (fun r6_ => r6_.1) (fun _ => rfl) rfl (fun _ => rfl))) (fun u8_ => ⟨.inl rfl, rfl⟩)))) (fun (r2_ : ((Exn ⊕ (List Im)) × OReader)) (x3_ : Exn) => rfl))))
  refine run_TX (n := 3) (kp := [true]) (m := m_items_of__X1) (ds := [eA text]) rfl hb ?_
  first
    | (simp -implicitDefEqProofs only [t_items_of__X1, Option.bind_assoc, Option.bind_some, bind_same] at h ⊢; exact h)
    | (simp -implicitDefEqProofs only [t_items_of__X1, Option.bind_assoc, Option.bind_some, bind_same] at h; exact h)
    | exact h
    | (simp [t_items_of__X1] at h ⊢; exact h)
theorem T_items_of__X1 : Tfx (τ := An × Unit) (fun t => [eA t.1]) (eL false eIm) F_items_of__X1 (fun t => t_items_of__X1 t.1) := fun t r h => L_items_of__X1 t.1 h
theorem L_checked_most__X1  (most : An) {r : (Exn ⊕ Unit)} (h : t_checked_most__X1 most = some r) : ∃ ds', F_checked_most__X1 [eA most] = some (exR eU ds' r) := by
  have hb : Bk (QfX eU [true] (fun _ => [eA most])) m_checked_most__X1 [eA most] _ := (b_ifT (et_or (et_not (et_tru (x_isiA (x_v eA most rfl)))) (et_or (et_tru (x_isiA (x_v eA most rfl))) (et_not (et_b (x_ch o2_leI o2_leI (x_k eI (1) rfl) (x_dec (e := eI) (x_v eA most rfl)) (x_k eI (200) rfl)))))) (b_raise0 (t := (.inl (6, []) : (Exn ⊕ Unit))) ⟨rfl, rfl⟩) (b_nil (t := (.inr () : (Exn ⊕ Unit))) ⟨.inr ⟨rfl, rfl⟩, rfl⟩))
  refine run_TX (n := 1) (kp := [true]) (m := m_checked_most__X1) (ds := [eA most]) rfl hb ?_
  first
    | (simp -implicitDefEqProofs only [t_checked_most__X1, Option.bind_assoc, Option.bind_some, bind_same] at h ⊢; exact h)
    | (simp -implicitDefEqProofs only [t_checked_most__X1, Option.bind_assoc, Option.bind_some, bind_same] at h; exact h)
    | exact h
    | (simp [t_checked_most__X1] at h ⊢; exact h)
theorem T_checked_most__X1 : Tfx (τ := An × Unit) (fun t => [eA t.1]) eU F_checked_most__X1 (fun t => t_checked_most__X1 t.1) := fun t r h => L_checked_most__X1 t.1 h
theorem L_checked_most  (most : Int) {r : Unit} (h : t_checked_most most = some r) : F_checked_most [eI most] = some (eU r, (fun _ => [eI most]) r) := by
  have hb : Bk (Qf eU [true] (fun _ => [eI most])) m_checked_most [eI most] _ := (b_ifT (et_orT (et_not (et_tru (x_isK kit_int_int (x_v eI most rfl)))) (et_orT (et_tru (x_isK kit_int_bool (x_v eI most rfl))) (et_not (et_b (x_chT o2_leI o2_leI (x_k eI (1) rfl) (x_v eI most rfl) (x_k eI (200) rfl)))))) b_never (b_nil (t := ()) ⟨.inr ⟨rfl, rfl⟩, rfl⟩))
  refine run_T (n := 1) (kp := [true]) (m := m_checked_most) (ds := [eI most]) rfl hb ?_
  first
    | (simp -implicitDefEqProofs only [t_checked_most, Option.bind_assoc, Option.bind_some, bind_same] at h ⊢; exact h)
    | (simp -implicitDefEqProofs only [t_checked_most, Option.bind_assoc, Option.bind_some, bind_same] at h; exact h)
    | exact h
    | (simp [t_checked_most] at h ⊢; exact h)
theorem T_checked_most : Tf (τ := Int × Unit) (fun t => [eI t.1]) eU F_checked_most (fun t => t_checked_most t.1) := fun t r h => ⟨_, L_checked_most t.1 h⟩
theorem L_Maker_init__X1  (most : An) {r : (Exn ⊕ OMaker)} (h : t_Maker_init__X1 most = some r) : ∃ ds', F_Maker_init__X1 [.obj true 12 [] [], eA most] = some (exI (e_Maker true) ds' r) := by
  have hb : Bk (QfXI (e_Maker true) [true, true] (fun r : OMaker => e_Maker true r :: [eA most])) m_Maker_init__X1 [(fun p_ : Unit => .obj true 12 [] []) (), eA most] _ := (b_exprE (f := (fun (r1_ : (Exn ⊕ Unit)) (x3_ : Exn) => (.inl x3_ : (Exn ⊕ OMaker)))) (x_callX T_checked_most__X1 (ea_cons (x_v eA most rfl) ea_nil)).eg (fun (r1_ : (Exn ⊕ Unit)) (y2_ : Unit) => (b_fld (fun (u4_ : Int) => [(fun p_ : Int => .obj true 12 ["most"] [eI p_]) u4_, eA most]) (eg_r (x_dec (e := eI) (x_v eA most rfl))) (fun _ => rfl) (fun (u4_ : Int) => (b_fld (fun (u5_ : Ls) => [(fun p_ : (Int × Ls) => .obj true 12 ["most", "row"] [eI p_.1, (eL true eLt) p_.2]) (u4_, u5_), eA most]) (eg_f (x_lst (f := (eL true eLt)) (fun t : Unit => ([] : Ls)) ea_nil (fun _ => rfl) (fun _ => (by decide : 0 ≤ LIM)))) (fun _ => rfl) (fun (u5_ : Ls) => (b_fld (fun (u6_ : Ts) => [(fun p_ : (Int × Ls × Ts) => .obj true 12 ["most", "row", "ink"] [eI p_.1, (eL true eLt) p_.2.1, eS p_.2.2]) (u4_, u5_, u6_), eA most]) (eg_f (x_k eS ['.'] rfl)) (fun _ => rfl) (fun (u6_ : Ts) => (b_fld (fun (u7_ : Ts) => [(fun p_ : (Int × Ls × Ts × Ts) => .obj true 12 ["most", "row", "ink", "ground"] [eI p_.1, (eL true eLt) p_.2.1, eS p_.2.2.1, eS p_.2.2.2]) (u4_, u5_, u6_, u7_), eA most]) (eg_f (x_k eS ['.'] rfl)) (fun _ => rfl) (fun (u7_ : Ts) => (b_fld (fun (u8_ : Bool) => [(fun p_ : (Int × Ls × Ts × Ts × Bool) => .obj true 12 ["most", "row", "ink", "ground", "stale"] [eI p_.1, (eL true eLt) p_.2.1, eS p_.2.2.1, eS p_.2.2.2.1, eB p_.2.2.2.2]) (u4_, u5_, u6_, u7_, u8_), eA most]) (eg_f (x_k eB false rfl)) (fun _ => rfl) (fun (u8_ : Bool) => (b_fld (fun (u9_ : Bool) => [e_Maker true ({ most := u4_, row := u5_, ink := u6_, ground := u7_, stale := u8_, more := u9_ : OMaker }), eA most]) (eg_f (x_k eB false rfl)) (fun _ => rfl) (fun (u9_ : Bool) => (b_nil (t := (.inr ({ most := u4_, row := u5_, ink := u6_, ground := u7_, stale := u8_, more := u9_ : OMaker }) : (Exn ⊕ OMaker))) ⟨.inl rfl, _, rfl⟩)))))))))))))) (fun (r1_ : (Exn ⊕ Unit)) (x3_ : Exn) => rfl))
  refine run_TXI (n := 2) (kp := [true, true]) (m := m_Maker_init__X1) (ds := [.obj true 12 [] [], eA most]) rfl hb ?_
  first
    | (simp -implicitDefEqProofs only [t_Maker_init__X1, Option.bind_assoc, Option.bind_some, bind_same] at h ⊢; exact h)
    | (simp -implicitDefEqProofs only [t_Maker_init__X1, Option.bind_assoc, Option.bind_some, bind_same] at h; exact h)
    | exact h
    | (simp [t_Maker_init__X1] at h ⊢; exact h)
theorem T_Maker_init__X1 : Tnx (τ := An × Unit) 12 (fun t => [eA t.1]) (e_Maker true) F_Maker_init__X1 (fun t => t_Maker_init__X1 t.1) := fun t r h => L_Maker_init__X1 t.1 h
theorem L_Maker_init  (most : Int) {r : OMaker} (h : t_Maker_init most = some r) : F_Maker_init [.obj true 12 [] [], eI most] = some ((fun _ => .non) r, (fun r : OMaker => e_Maker true r :: [eI most]) r) := by
  have hb : Bk (Qf (fun _ => .non) [true, true] (fun r : OMaker => e_Maker true r :: [eI most])) m_Maker_init [(fun p_ : Unit => .obj true 12 [] []) (), eI most] _ := (b_expr (eg_f (x_call T_checked_most (ea_cons (x_v eI most rfl) ea_nil))) (fun (u1_ : Unit) => (b_fld (fun (u2_ : Int) => [(fun p_ : Int => .obj true 12 ["most"] [eI p_]) u2_, eI most]) (eg_r (x_v eI most rfl)) (fun _ => rfl) (fun (u2_ : Int) => (b_fld (fun (u3_ : Ls) => [(fun p_ : (Int × Ls) => .obj true 12 ["most", "row"] [eI p_.1, (eL true eLt) p_.2]) (u2_, u3_), eI most]) (eg_f (x_lst (f := (eL true eLt)) (fun t : Unit => ([] : Ls)) ea_nil (fun _ => rfl) (fun _ => (by decide : 0 ≤ LIM)))) (fun _ => rfl) (fun (u3_ : Ls) => (b_fld (fun (u4_ : Ts) => [(fun p_ : (Int × Ls × Ts) => .obj true 12 ["most", "row", "ink"] [eI p_.1, (eL true eLt) p_.2.1, eS p_.2.2]) (u2_, u3_, u4_), eI most]) (eg_f (x_k eS ['.'] rfl)) (fun _ => rfl) (fun (u4_ : Ts) => (b_fld (fun (u5_ : Ts) => [(fun p_ : (Int × Ls × Ts × Ts) => .obj true 12 ["most", "row", "ink", "ground"] [eI p_.1, (eL true eLt) p_.2.1, eS p_.2.2.1, eS p_.2.2.2]) (u2_, u3_, u4_, u5_), eI most]) (eg_f (x_k eS ['.'] rfl)) (fun _ => rfl) (fun (u5_ : Ts) => (b_fld (fun (u6_ : Bool) => [(fun p_ : (Int × Ls × Ts × Ts × Bool) => .obj true 12 ["most", "row", "ink", "ground", "stale"] [eI p_.1, (eL true eLt) p_.2.1, eS p_.2.2.1, eS p_.2.2.2.1, eB p_.2.2.2.2]) (u2_, u3_, u4_, u5_, u6_), eI most]) (eg_f (x_k eB false rfl)) (fun _ => rfl) (fun (u6_ : Bool) => (b_fld (fun (u7_ : Bool) => [e_Maker true ({ most := u2_, row := u3_, ink := u4_, ground := u5_, stale := u6_, more := u7_ : OMaker }), eI most]) (eg_f (x_k eB false rfl)) (fun _ => rfl) (fun (u7_ : Bool) => (b_nil (t := ({ most := u2_, row := u3_, ink := u4_, ground := u5_, stale := u6_, more := u7_ : OMaker })) ⟨.inr ⟨rfl, rfl⟩, rfl⟩)))))))))))))))
  refine run_T (n := 2) (kp := [true, true]) (m := m_Maker_init) (ds := [.obj true 12 [] [], eI most]) rfl hb ?_
  first
    | (simp -implicitDefEqProofs only [t_Maker_init, Option.bind_assoc, Option.bind_some, bind_same] at h ⊢; exact h)
    | (simp -implicitDefEqProofs only [t_Maker_init, Option.bind_assoc, Option.bind_some, bind_same] at h; exact h)
    | exact h
    | (simp [t_Maker_init] at h ⊢; exact h)
theorem T_Maker_init : Tn (τ := Int × Unit) 12 (fun t => [eI t.1]) (e_Maker true) F_Maker_init (fun t => t_Maker_init t.1) := fun t r h => ⟨_, L_Maker_init t.1 h⟩
theorem L_Maker_open_letters (o_ : Bool) (self : OMaker) {r : Ls} (h : t_Maker_open_letters self = some r) : F_Maker_open_letters [(e_Maker o_) self] = some ((eL true eLt) r, (fun _ => [(e_Maker o_) self]) r) := by
  have hb : Bk (Qf (eL true eLt) [true] (fun _ => [(e_Maker o_) self])) m_Maker_open_letters [(e_Maker o_) self] _ := (b_ret (k := fun (u1_ : Ls) => u1_) (eg_f (x_a1 o1_listL (ev_get (e := (eL o_ eLt)) (x := self.row) rfl))) (fun u1_ => ⟨.inl rfl, rfl⟩))
  refine run_T (n := 1) (kp := [true]) (m := m_Maker_open_letters) (ds := [(e_Maker o_) self]) rfl hb ?_
  first
    | (simp -implicitDefEqProofs only [t_Maker_open_letters, Option.bind_assoc, Option.bind_some, bind_same] at h ⊢; exact h)
    | (simp -implicitDefEqProofs only [t_Maker_open_letters, Option.bind_assoc, Option.bind_some, bind_same] at h; exact h)
    | exact h
    | (simp [t_Maker_open_letters] at h ⊢; exact h)
theorem T_Maker_open_letters {o_ : Bool} : To (τ := Unit) (e_Maker o_) (fun t => []) (eL true eLt) F_Maker_open_letters (fun x t => t_Maker_open_letters x ) := fun x t r h => ⟨_, L_Maker_open_letters o_ x  h⟩
theorem L_Maker_make_plain  (self : OMaker) {r : OMaker} (h : t_Maker_make_plain self = some r) : F_Maker_make_plain [(e_Maker true) self] = some ((fun _ => .non) r, (fun r : OMaker => e_Maker true r :: []) r) := by
  have hb : Bk (Qf (fun _ => .non) [true] (fun r : OMaker => e_Maker true r :: [])) m_Maker_make_plain [(e_Maker true) self] _ := (b_fld (fun (u1_ : Ts) => [(e_Maker true) ({ self with ink := u1_ })]) (eg_f (x_k eS ['.'] rfl)) (fun _ => rfl) (fun (u1_ : Ts) => (b_fld (fun (u2_ : Ts) => [(e_Maker true) ({ { self with ink := u1_ } with ground := u2_ })]) (eg_f (x_k eS ['.'] rfl)) (fun _ => rfl) (fun (u2_ : Ts) => (b_nil (t := ({ { self with ink := u1_ } with ground := u2_ })) ⟨.inr ⟨rfl, rfl⟩, rfl⟩)))))
  refine run_T (n := 1) (kp := [true]) (m := m_Maker_make_plain) (ds := [(e_Maker true) self]) rfl hb ?_
  first
    | (simp -implicitDefEqProofs only [t_Maker_make_plain, Option.bind_assoc, Option.bind_some, bind_same] at h ⊢; exact h)
    | (simp -implicitDefEqProofs only [t_Maker_make_plain, Option.bind_assoc, Option.bind_some, bind_same] at h; exact h)
    | exact h
    | (simp [t_Maker_make_plain] at h ⊢; exact h)
theorem T_Maker_make_plain : Tm (τ := Unit) (e_Maker true) (fun t => []) (fun _ => .non) (fun r => r) F_Maker_make_plain (fun x t => t_Maker_make_plain x ) := fun x t r h => ⟨_, L_Maker_make_plain x  h⟩
theorem L_Maker_tell_part  (self : OMaker) (word : Ts) {r : ((List Pt) × OMaker)} (h : t_Maker_tell_part self word = some r) : F_Maker_tell_part [(e_Maker true) self, eS word] = some ((fun r : ((List Pt) × OMaker) => (eL true ePt) r.1) r, (fun r : ((List Pt) × OMaker) => e_Maker true r.2 :: [eS word]) r) := by
  have hb : Bk (Qf (fun r : ((List Pt) × OMaker) => (eL true ePt) r.1) [true, true] (fun r : ((List Pt) × OMaker) => e_Maker true r.2 :: [eS word])) m_Maker_tell_part [(e_Maker true) self, eS word, .gone] _ := (b_frzP (ρ2 := [e_Maker__row self, eS word, .gone]) (e := (eL true eLt)) (x := self.row) rfl rfl (b_asg (fun (part : Pt) => [e_Maker__row self, eS word, ePt part]) (eg_f (x_tup (f := ePt) (fun t : Ls × Ts × Unit => (t.1, t.2.1)) (ea_cons (ev_get (e := eLs) (x := self.row) rfl) (ea_cons (x_v eS word rfl) ea_nil)) (fun _ => rfl) (fun _ => (by decide : 2 ≤ LIM)))) (fun _ => rfl) (fun (part : Pt) => (b_fld (fun (u1_ : Ls) => [(e_Maker true) ({ self with row := u1_ }), eS word, ePt part]) (eg_f (x_lst (f := (eL true eLt)) (fun t : Unit => ([] : Ls)) ea_nil (fun _ => rfl) (fun _ => (by decide : 0 ≤ LIM)))) (fun _ => rfl) (fun (u1_ : Ls) => (b_fld (fun (u2_ : Bool) => [(e_Maker true) ({ { self with row := u1_ } with stale := u2_ }), eS word, ePt part]) (eg_f (x_k eB false rfl)) (fun _ => rfl) (fun (u2_ : Bool) => (b_fld (fun (u3_ : Bool) => [(e_Maker true) ({ { { self with row := u1_ } with stale := u2_ } with more := u3_ }), eS word, ePt part]) (eg_f (x_m2 (o2_eq (e' := eS) (by decide)) (x_v eS word rfl) (x_k eS ['m', 'o', 'r', 'e'] rfl))) (fun _ => rfl) (fun (u3_ : Bool) => (b_ret (k := fun (u4_ : (List Pt)) => (((u4_, { self with row := u1_, stale := u2_, more := u3_ })) : ((List Pt) × OMaker))) (eg_f (x_lst (f := (eL true ePt)) (fun t : Pt × Unit => ([t.1] : (List Pt))) (ea_cons (x_v ePt part rfl) ea_nil) (fun _ => rfl) (fun _ => (by decide : 1 ≤ LIM)))) (fun u4_ => ⟨.inl rfl, rfl⟩)))))))))))
  refine run_T (n := 3) (kp := [true, true]) (m := m_Maker_tell_part) (ds := [(e_Maker true) self, eS word]) rfl hb ?_
  first
    | (simp -implicitDefEqProofs only [t_Maker_tell_part, Option.bind_assoc, Option.bind_some, bind_same] at h ⊢; exact h)
    | (simp -implicitDefEqProofs only [t_Maker_tell_part, Option.bind_assoc, Option.bind_some, bind_same] at h; exact h)
    | exact h
    | (simp [t_Maker_tell_part] at h ⊢; exact h)
theorem T_Maker_tell_part : Tm (τ := Ts × Unit) (e_Maker true) (fun t => [eS t.1]) (fun r : ((List Pt) × OMaker) => (eL true ePt) r.1) (fun r => r.2) F_Maker_tell_part (fun x t => t_Maker_tell_part x t.1) := fun x t r h => ⟨_, L_Maker_tell_part x t.1 h⟩
theorem L_Maker_put_sign  (self : OMaker) (sign : Ts) (place : Int) {r : ((List Pt) × OMaker)} (h : t_Maker_put_sign self sign place = some r) : F_Maker_put_sign [(e_Maker true) self, eS sign, eI place] = some ((fun r : ((List Pt) × OMaker) => ePs r.1) r, (fun r : ((List Pt) × OMaker) => e_Maker true r.2 :: [eS sign, eI place]) r) := by
  have hb : Bk (Qf (fun r : ((List Pt) × OMaker) => ePs r.1) [true, true, true] (fun r : ((List Pt) × OMaker) => e_Maker true r.2 :: [eS sign, eI place])) m_Maker_put_sign [(e_Maker true) self, eS sign, eI place, .gone] _ := (b_asg (fun (found : (List Pt)) => [(e_Maker true) self, eS sign, eI place, ePs found]) (eg_f (x_cold (x_lst (f := (eL true ePt)) (fun t : Unit => ([] : (List Pt))) ea_nil (fun _ => rfl) (fun _ => (by decide : 0 ≤ LIM))))) (fun _ => rfl) (fun (found : (List Pt)) => (b_join (fun (s1_ : (OMaker × (List Pt))) => [(e_Maker true) s1_.1, eS sign, eI place, ePs s1_.2]) (et_b (x_m2 (o2_eq (e' := eI) (by decide)) (x_a1 o1_lenL (ev_get (e := (eL true eLt)) (x := self.row) rfl)) (ev_get (e := eI) (x := self.most) rfl))) (b_asgC (ic := icFst) (fun (u3_ : ((List Pt) × OMaker)) => [(e_Maker true) u3_.2, eS sign, eI place, ePs u3_.1]) (eg_meth (x := self) (env := fun r2_ => [(e_Maker true) r2_.2, eS sign, eI place, ePs found]) (T_Maker_tell_part) rfl rfl (ea_cons (x_k eS ['m', 'o', 'r', 'e'] rfl) ea_nil) (fun _ => rfl)) (fun _ => rfl) (fun _ => rfl) (fun (u3_ : ((List Pt) × OMaker)) => (b_nil (t := (u3_.2, u3_.1)) ⟨rfl, rfl⟩))) (b_nil (t := (self, found)) ⟨rfl, rfl⟩) (fun (s1_ : (OMaker × (List Pt))) => (b_expr (eg_app (a := eLt) (xs := s1_.1.row) (env := fun r_ => [(e_Maker true) ({ s1_.1 with row := r_ }), eS sign, eI place, ePs s1_.2]) rfl (x_tup (f := eLt) (fun t : Ts × Ts × Ts × Int × Unit => (t.1, t.2.1, t.2.2.1, t.2.2.2.1)) (ea_cons (x_v eS sign rfl) (ea_cons (ev_get (e := eS) (x := s1_.1.ink) rfl) (ea_cons (ev_get (e := eS) (x := s1_.1.ground) rfl) (ea_cons (x_v eI place rfl) ea_nil)))) (fun _ => rfl) (fun _ => (by decide : 4 ≤ LIM))) (fun _ => rfl)) (fun (u4_ : Ls) => (b_ret (k := fun (u5_ : (List Pt)) => (((u5_, { s1_.1 with row := u4_ })) : ((List Pt) × OMaker))) (eg_r (x_v ePs s1_.2 rfl)) (fun u5_ => ⟨.inl rfl, rfl⟩))))))))
  refine run_T (n := 4) (kp := [true, true, true]) (m := m_Maker_put_sign) (ds := [(e_Maker true) self, eS sign, eI place]) rfl hb ?_
  first
    | (simp -implicitDefEqProofs only [t_Maker_put_sign, Option.bind_assoc, Option.bind_some, bind_same] at h ⊢; exact h)
    | (simp -implicitDefEqProofs only [t_Maker_put_sign, Option.bind_assoc, Option.bind_some, bind_same] at h; exact h)
    | exact h
    | (simp [t_Maker_put_sign] at h ⊢; exact h)
theorem T_Maker_put_sign : Tm (τ := Ts × Int × Unit) (e_Maker true) (fun t => [eS t.1, eI t.2.1]) (fun r : ((List Pt) × OMaker) => ePs r.1) (fun r => r.2) F_Maker_put_sign (fun x t => t_Maker_put_sign x t.1 t.2.1) := fun x t r h => ⟨_, L_Maker_put_sign x t.1 t.2.1 h⟩
theorem L_Maker_put  (self : OMaker) (item : Im) {r : ((List Pt) × OMaker)} (h : t_Maker_put self item = some r) : F_Maker_put [(e_Maker true) self, eIm item] = some ((fun r : ((List Pt) × OMaker) => ePs r.1) r, (fun r : ((List Pt) × OMaker) => e_Maker true r.2 :: [eIm item]) r) := by
  have hb : Bk (Qf (fun r : ((List Pt) × OMaker) => ePs r.1) [true, true] (fun r : ((List Pt) × OMaker) => e_Maker true r.2 :: [eIm item])) m_Maker_put [(e_Maker true) self, eIm item, .gone, .gone, .gone] _ := (b_asg (fun (u1_ : Im) => [(e_Maker true) self, eIm item, eI u1_.1, eS u1_.2.1, eS u1_.2.2]) (eg_r (x_v eIm item rfl)) (fun _ => rfl) (fun (u1_ : Im) => (b_ifT (et_b (x_m2 (o2_eq (e' := eS) (by decide)) (x_v eS u1_.2.1 rfl) (x_k eS ['e', 'n', 'd'] rfl))) (b_expr (eg_meth (x := self) (env := fun r2_ => [(e_Maker true) r2_, eIm item, eI u1_.1, eS u1_.2.1, eS u1_.2.2]) (T_Maker_make_plain) rfl rfl ea_nil (fun _ => rfl)) (fun (u3_ : OMaker) => (b_ret (k := fun (u5_ : ((List Pt) × OMaker)) => (u5_.1, u5_.2)) (eg_cold (ic := icFst) (eg_meth (x := u3_) (env := fun r4_ => [(e_Maker true) r4_.2, eIm item, eI u1_.1, eS u1_.2.1, eS u1_.2.2]) (T_Maker_tell_part) rfl rfl (ea_cons (x_k eS ['w', 'h', 'o', 'l', 'e'] rfl) ea_nil) (fun _ => rfl))) (fun u5_ => ⟨rfl, ⟨.inl rfl, rfl⟩⟩)))) (b_ifT (et_b (x_m2 (o2_eq (e' := eS) (by decide)) (x_v eS u1_.2.1 rfl) (x_k eS ['a', 'n', 'e', 'w'] rfl))) (b_expr (eg_meth (x := self) (env := fun r6_ => [(e_Maker true) r6_, eIm item, eI u1_.1, eS u1_.2.1, eS u1_.2.2]) (T_Maker_make_plain) rfl rfl ea_nil (fun _ => rfl)) (fun (u7_ : OMaker) => (b_fld (fun (u8_ : Bool) => [(e_Maker true) ({ u7_ with stale := u8_ }), eIm item, eI u1_.1, eS u1_.2.1, eS u1_.2.2]) (eg_f (x_k eB true rfl)) (fun _ => rfl) (fun (u8_ : Bool) => (b_ret (k := fun (u9_ : (List Pt)) => (((u9_, { u7_ with stale := u8_ })) : ((List Pt) × OMaker))) (eg_f (x_cold (x_lst (f := (eL true ePt)) (fun t : Unit => ([] : (List Pt))) ea_nil (fun _ => rfl) (fun _ => (by decide : 0 ≤ LIM))))) (fun u9_ => ⟨rfl, ⟨.inl rfl, rfl⟩⟩)))))) (b_join (fun (s10_ : OMaker) => [(e_Maker true) s10_, eIm item, eI u1_.1, eS u1_.2.1, eS u1_.2.2]) (et_tru (ev_get (e := eB) (x := self.stale) rfl)) (b_fld (fun (u11_ : Ls) => [(e_Maker true) ({ self with row := u11_ }), eIm item, eI u1_.1, eS u1_.2.1, eS u1_.2.2]) (eg_f (x_lst (f := (eL true eLt)) (fun t : Unit => ([] : Ls)) ea_nil (fun _ => rfl) (fun _ => (by decide : 0 ≤ LIM)))) (fun _ => rfl) (fun (u11_ : Ls) => (b_fld (fun (u12_ : Bool) => [(e_Maker true) ({ { self with row := u11_ } with stale := u12_ }), eIm item, eI u1_.1, eS u1_.2.1, eS u1_.2.2]) (eg_f (x_k eB false rfl)) (fun _ => rfl) (fun (u12_ : Bool) => (b_nil (t := ({ { self with row := u11_ } with stale := u12_ })) ⟨rfl, rfl⟩))))) (b_nil (t := self) ⟨rfl, rfl⟩) (fun (s10_ : OMaker) => (b_ifT (et_b (x_m2 (o2_eq (e' := eS) (by decide)) (x_v eS u1_.2.1 rfl) (x_k eS ['s', 'i', 'g', 'n'] rfl))) (b_ret (k := fun (u14_ : ((List Pt) × OMaker)) => (u14_.1, u14_.2)) (eg_meth (x := s10_) (env := fun r13_ => [(e_Maker true) r13_.2, eIm item, eI u1_.1, eS u1_.2.1, eS u1_.2.2]) (T_Maker_put_sign) rfl rfl (ea_cons (x_v eS u1_.2.2 rfl) (ea_cons (x_v eI u1_.1 rfl) ea_nil)) (fun _ => rfl)) (fun u14_ => ⟨rfl, ⟨.inl rfl, rfl⟩⟩)) (b_join (fun (s15_ : OMaker) => [(e_Maker true) s15_, eIm item, eI u1_.1, eS u1_.2.1, eS u1_.2.2]) (et_b (x_m2 (o2_eq (e' := eS) (by decide)) (x_v eS u1_.2.1 rfl) (x_k eS ['i', 'n', 'k'] rfl))) (b_fld (fun (u16_ : Ts) => [(e_Maker true) ({ s10_ with ink := u16_ }), eIm item, eI u1_.1, eS u1_.2.1, eS u1_.2.2]) (eg_r (x_v eS u1_.2.2 rfl)) (fun _ => rfl) (fun (u16_ : Ts) => (b_nil (t := ({ s10_ with ink := u16_ })) ⟨rfl, rfl⟩))) (b_join (fun (s17_ : OMaker) => [(e_Maker true) s17_, eIm item, eI u1_.1, eS u1_.2.1, eS u1_.2.2]) (et_b (x_m2 (o2_eq (e' := eS) (by decide)) (x_v eS u1_.2.1 rfl) (x_k eS ['g', 'r', 'o', 'u', 'n', 'd'] rfl))) (b_fld (fun (u18_ : Ts) => [(e_Maker true) ({ s10_ with ground := u18_ }), eIm item, eI u1_.1, eS u1_.2.1, eS u1_.2.2]) (eg_r (x_v eS u1_.2.2 rfl)) (fun _ => rfl) (fun (u18_ : Ts) => (b_nil (t := ({ s10_ with ground := u18_ })) ⟨rfl, rfl⟩))) (b_expr (eg_meth (x := s10_) (env := fun r19_ => [(e_Maker true) r19_, eIm item, eI u1_.1, eS u1_.2.1, eS u1_.2.2]) (T_Maker_make_plain) rfl rfl ea_nil (fun _ => rfl)) (fun (u20_ : OMaker) => (b_nil (t := u20_) ⟨rfl, rfl⟩))) (fun (s17_ : OMaker) => (b_nil (t := s17_) ⟨rfl, rfl⟩))) (fun (s15_ : OMaker) => (b_ret (k := fun (u21_ : (List Pt)) => (u21_, s15_)) (eg_f (x_cold (x_lst (f := (eL true ePt)) (fun t : Unit => ([] : (List Pt))) ea_nil (fun _ => rfl) (fun _ => (by decide : 0 ≤ LIM))))) (fun u21_ => ⟨.inl rfl, rfl⟩)))))))))))
  refine run_T (n := 5) (kp := [true, true]) (m := m_Maker_put) (ds := [(e_Maker true) self, eIm item]) rfl hb ?_
  first
    | (simp -implicitDefEqProofs only [t_Maker_put, Option.bind_assoc, Option.bind_some, bind_same] at h ⊢; exact h)
    | (simp -implicitDefEqProofs only [t_Maker_put, Option.bind_assoc, Option.bind_some, bind_same] at h; exact h)
    | exact h
    | (simp [t_Maker_put] at h ⊢; exact h)
theorem T_Maker_put : Tm (τ := Im × Unit) (e_Maker true) (fun t => [eIm t.1]) (fun r : ((List Pt) × OMaker) => ePs r.1) (fun r => r.2) F_Maker_put (fun x t => t_Maker_put x t.1) := fun x t r h => ⟨_, L_Maker_put x t.1 h⟩
theorem L_rows_of__X1  (text : An) (most : An) {r : (Exn ⊕ ((List Pt) × Ls))} (h : t_rows_of__X1 text most = some r) : ∃ ds', F_rows_of__X1 [eA text, eA most] = some (exR (e2 ePs eLs) ds' r) := by
  have hb : Bk (QfX (e2 ePs eLs) [true, true] (fun _ => [eA text, eA most])) m_rows_of__X1 [eA text, eA most, .gone, .gone, .gone] _ := (b_setE (f := (fun (r1_ : (Exn ⊕ OMaker)) (x2_ : Exn) => (.inl x2_ : (Exn ⊕ ((List Pt) × Ls))))) (fun (r1_ : (Exn ⊕ OMaker)) (maker : OMaker) => [eA text, eA most, (e_Maker true) maker, .gone, .gone]) (x_mkX T_Maker_init__X1 (ea_cons (x_v eA most rfl) ea_nil)).eg (fun _ _ => rfl) (fun (r1_ : (Exn ⊕ OMaker)) (maker : OMaker) => (b_asg (fun (parts : (List Pt)) => [eA text, eA most, (e_Maker true) maker, (eL true ePt) parts, .gone]) (eg_f (x_lst (f := (eL true ePt)) (fun t : Unit => ([] : (List Pt))) ea_nil (fun _ => rfl) (fun _ => (by decide : 0 ≤ LIM)))) (fun _ => rfl) (fun (parts : (List Pt)) => (b_forX (e := eIm) (F := (fun (r3_ : (Exn ⊕ (List Im))) (x5_ : Exn) => (.inl x5_ : (Exn ⊕ ((List Pt) × Ls))))) (x_callX T_items_of__X1 (ea_cons (x_v eA text rfl) ea_nil)).eg (fun (r3_ : (Exn ⊕ (List Im))) (y4_ : (List Im)) => (b_for (fun (s6_ : (OMaker × (List Pt))) => [eA text, eA most, (e_Maker true) s6_.1, (eL true ePt) s6_.2, .gone]) (maker, parts) (fun (s6_ : (OMaker × (List Pt))) (item : Im) => [eA text, eA most, (e_Maker true) s6_.1, (eL true ePt) s6_.2, eIm item]) ei_itK rfl (fun _ _ => rfl) (fun (s6_ : (OMaker × (List Pt))) (item : Im) => (b_expr (eg_ext (a := ePt) (xs := fun r9_ => s6_.2) (ys := fun r9_ => r9_.1) (env := fun p_ => [eA text, eA most, (e_Maker true) p_.1.2, (eL true ePt) p_.2, eIm item]) rfl (eg_meth (x := s6_.1) (env := fun r8_ => [eA text, eA most, (e_Maker true) r8_.2, (eL true ePt) s6_.2, eIm item]) (T_Maker_put) rfl rfl (ea_cons (x_v eIm item rfl) ea_nil) (fun _ => rfl)) (fun _ => rfl) (fun _ => rfl) (fun _ => rfl)) (fun (u11_ : (((List Pt) × OMaker) × (List Pt))) => (b_nil (t := (u11_.1.2, u11_.2)) ⟨rfl, rfl⟩)))) (fun (s6_ : (OMaker × (List Pt))) => (b_frz (ρ2 := [eA text, eA most, (e_Maker false) s6_.1, (eL true ePt) s6_.2, .gone]) (e := (e_Maker true)) (x := s6_.1) rfl rfl (b_frz (ρ2 := [eA text, eA most, (e_Maker false) s6_.1, ePs s6_.2, .gone]) (e := (eL true ePt)) (x := s6_.2) rfl rfl (b_ret (k := fun (u13_ : ((List Pt) × Ls)) => (.inr u13_ : (Exn ⊕ ((List Pt) × Ls)))) (eg_f (x_tup (f := (e2 ePs eLs)) (fun t : (List Pt) × Ls × Unit => (t.1, t.2.1)) (ea_cons (x_v ePs s6_.2 rfl) (ea_cons (x_cold (x_look (fun x => rfl) T_Maker_open_letters (ev_get (e := (e_Maker false)) (x := s6_.1) rfl) ea_nil)) ea_nil)) (fun _ => rfl) (fun _ => (by decide : 2 ≤ LIM)))) (fun u13_ => ⟨.inl rfl, rfl⟩))))))) (fun (r3_ : (Exn ⊕ (List Im))) (x5_ : Exn) => rfl))))) (fun (r1_ : (Exn ⊕ OMaker)) (x2_ : Exn) => rfl))
  refine run_TX (n := 5) (kp := [true, true]) (m := m_rows_of__X1) (ds := [eA text, eA most]) rfl hb ?_
  first
    | (simp -implicitDefEqProofs only [t_rows_of__X1, Option.bind_assoc, Option.bind_some, bind_same] at h ⊢; exact h)
    | (simp -implicitDefEqProofs only [t_rows_of__X1, Option.bind_assoc, Option.bind_some, bind_same] at h; exact h)
    | exact h
    | (simp [t_rows_of__X1] at h ⊢; exact h)
theorem T_rows_of__X1 : Tfx (τ := An × An × Unit) (fun t => [eA t.1, eA t.2.1]) (e2 ePs eLs) F_rows_of__X1 (fun t => t_rows_of__X1 t.1 t.2.1) := fun t r h => L_rows_of__X1 t.1 t.2.1 h
theorem L_lw_cell  (script : (List Int)) (k : Int) {r : Int} (h : t_lw_cell script k = some r) : F_lw_cell [eC script, eI k] = some (eI r, (fun _ => [eC script, eI k]) r) := by
  have hb : Bk (Qf eI [true, true] (fun _ => [eC script, eI k])) m_lw_cell [eC script, eI k] _ := (b_ifT (et_b (x_m2 o2_ltI (x_v eI k rfl) (x_a1 o1_lenC (x_v eC script rfl)))) (b_retI (eg_r (x_m2 o2_ixC (x_v eC script rfl) (x_v eI k rfl))) (fun u1_ => ⟨rfl, ⟨.inl rfl, rfl⟩⟩)) (b_ret (k := fun (u2_ : Int) => u2_) (eg_f (x_k eI (0) rfl)) (fun u2_ => ⟨.inl rfl, rfl⟩)))
  refine run_T (n := 2) (kp := [true, true]) (m := m_lw_cell) (ds := [eC script, eI k]) rfl hb ?_
  first
    | (simp -implicitDefEqProofs only [t_lw_cell, Option.bind_assoc, Option.bind_some, bind_same] at h ⊢; exact h)
    | (simp -implicitDefEqProofs only [t_lw_cell, Option.bind_assoc, Option.bind_some, bind_same] at h; exact h)
    | exact h
    | (simp [t_lw_cell] at h ⊢; exact h)
theorem T_lw_cell : Tf (τ := (List Int) × Int × Unit) (fun t => [eC t.1, eI t.2.1]) eI F_lw_cell (fun t => t_lw_cell t.1 t.2.1) := fun t r h => ⟨_, L_lw_cell t.1 t.2.1 h⟩
theorem L_lw_mix  (cell_here : Int) (k : Int) {r : Int} (h : t_lw_mix cell_here k = some r) : F_lw_mix [eI cell_here, eI k] = some (eI r, (fun _ => [eI cell_here, eI k]) r) := by
  have hb : Bk (Qf eI [true, true] (fun _ => [eI cell_here, eI k])) m_lw_mix [eI cell_here, eI k, .gone, .gone, .gone] _ := (b_ifT (et_b (x_m2 o2_gtI (x_v eI cell_here rfl) (x_pow 10 18 1000000000000000000 (by decide)))) (b_asg (fun (rest : Int) => [eI cell_here, eI k, eI rest, .gone, .gone]) (eg_r (x_v eI cell_here rfl)) (fun _ => rfl) (fun (rest : Int) => (b_for (fun (s1_ : Int) => [eI cell_here, eI k, eI s1_, .gone, .gone]) rest (fun (s1_ : Int) (turn : Int) => [eI cell_here, eI k, eI s1_, eI turn, .gone]) (ei_rng1 (x_v eI k rfl)) rfl (fun _ _ => rfl) (fun (s1_ : Int) (turn : Int) => (b_asg (fun (rest : Int) => [eI cell_here, eI k, eI rest, eI turn, .gone]) (eg_f (x_fdivP 1000000000 (by decide) (x_v eI s1_ rfl) (x_pow 10 9 1000000000 (by decide)))) (fun _ => rfl) (fun (rest : Int) => (b_nil (t := rest) ⟨rfl, rfl⟩)))) (fun (s1_ : Int) => (b_ret (k := fun (u2_ : Int) => u2_) (eg_f (x_modP 1000000000 (by decide) (x_v eI s1_ rfl) (x_pow 10 9 1000000000 (by decide)))) (fun u2_ => ⟨rfl, ⟨.inl rfl, rfl⟩⟩)))))) (b_asg (fun (number : Int) => [eI cell_here, eI k, .gone, .gone, eI number]) (eg_f (x_m2 o2_addI (x_modP 2147483647 (by decide) (x_v eI cell_here rfl) (x_k eI (2147483647) rfl)) (x_k eI (7919) rfl))) (fun _ => rfl) (fun (number : Int) => (b_for (fun (s4_ : Int) => [eI cell_here, eI k, .gone, .gone, eI s4_]) number (fun (s4_ : Int) (turn : Int) => [eI cell_here, eI k, .gone, eI turn, eI s4_]) (ei_rng1 (x_m2 o2_addI (x_v eI k rfl) (x_k eI (2) rfl))) rfl (fun _ _ => rfl) (fun (s4_ : Int) (turn : Int) => (b_asg (fun (number : Int) => [eI cell_here, eI k, .gone, eI turn, eI number]) (eg_f (x_modP 2147483629 (by decide) (x_m2 o2_addI (x_mulR 48271 (by decide) (x_v eI s4_ rfl)) (x_k eI (104729) rfl)) (x_k eI (2147483629) rfl))) (fun _ => rfl) (fun (number : Int) => (b_nil (t := number) ⟨rfl, rfl⟩)))) (fun (s4_ : Int) => (b_retI (eg_f (x_fdivP 11 (by decide) (x_modP 998244353 (by decide) (x_m2 o2_mul (x_v eI s4_ rfl) (x_v eI s4_ rfl)) (x_k eI (998244353) rfl)) (x_k eI (11) rfl))) (fun u7_ => ⟨.inl rfl, rfl⟩)))))))
  refine run_T (n := 5) (kp := [true, true]) (m := m_lw_mix) (ds := [eI cell_here, eI k]) rfl hb ?_
  first
    | (simp -implicitDefEqProofs only [t_lw_mix, Option.bind_assoc, Option.bind_some, bind_same] at h ⊢; exact h)
    | (simp -implicitDefEqProofs only [t_lw_mix, Option.bind_assoc, Option.bind_some, bind_same] at h; exact h)
    | exact h
    | (simp [t_lw_mix] at h ⊢; exact h)
theorem T_lw_mix : Tf (τ := Int × Int × Unit) (fun t => [eI t.1, eI t.2.1]) eI F_lw_mix (fun t => t_lw_mix t.1 t.2.1) := fun t r h => ⟨_, L_lw_mix t.1 t.2.1 h⟩
theorem L_lw_parts  (items : (List Im)) (most : Int) {r : ((List Pt) × Ls)} (h : t_lw_parts_c items most = some r) : F_lw_parts [(eL false eIm) items, eI most] = some ((e2 (eL true (e2 (eL true eLt) eS)) (eL true eLt)) r, (fun _ => [(eL false eIm) items, eI most]) r) := by
  have hb : Bk (Qf (e2 (eL true (e2 (eL true eLt) eS)) (eL true eLt)) [true, true] (fun _ => [(eL false eIm) items, eI most])) m_lw_parts [(eL false eIm) items, eI most, .gone, .gone, .gone, .gone, .gone, .gone, .gone] _ := (b_asg (fun (parts_here : (List Pt)) => [(eL false eIm) items, eI most, (eL true (e2 (eL true eLt) eS)) parts_here, .gone, .gone, .gone, .gone, .gone, .gone]) (eg_f (x_lst (f := (eL true (e2 (eL true eLt) eS))) (fun t : Unit => ([] : (List Pt))) ea_nil (fun _ => rfl) (fun _ => (by decide : 0 ≤ LIM)))) (fun _ => rfl) (fun (parts_here : (List Pt)) => (b_asg (fun (row : Ls) => [(eL false eIm) items, eI most, (eL true (e2 (eL true eLt) eS)) parts_here, (eL true eLt) row, .gone, .gone, .gone, .gone, .gone]) (eg_f (x_lst (f := (eL true eLt)) (fun t : Unit => ([] : Ls)) ea_nil (fun _ => rfl) (fun _ => (by decide : 0 ≤ LIM)))) (fun _ => rfl) (fun (row : Ls) => (b_asg (fun (stale : Bool) => [(eL false eIm) items, eI most, (eL true (e2 (eL true eLt) eS)) parts_here, (eL true eLt) row, eB stale, .gone, .gone, .gone, .gone]) (eg_f (x_k eB false rfl)) (fun _ => rfl) (fun (stale : Bool) => (b_asg (fun (colours : (List Ts)) => [(eL false eIm) items, eI most, (eL true (e2 (eL true eLt) eS)) parts_here, (eL true eLt) row, eB stale, (eL true eS) colours, .gone, .gone, .gone]) (eg_f (x_lst (f := (eL true eS)) (fun t : Ts × Ts × Unit => ([t.1, t.2.1] : (List Ts))) (ea_cons (x_k eS ['.'] rfl) (ea_cons (x_k eS ['.'] rfl) ea_nil)) (fun _ => rfl) (fun _ => (by decide : 2 ≤ LIM)))) (fun _ => rfl) (fun (colours : (List Ts)) => (b_for (fun (s1_ : ((List Pt) × Ls × Bool × (List Ts))) => [(eL false eIm) items, eI most, (eL true (e2 (eL true eLt) eS)) s1_.1, (eL true eLt) s1_.2.1, eB s1_.2.2.1, (eL true eS) s1_.2.2.2, .gone, .gone, .gone]) (parts_here, row, stale, colours) (fun (s1_ : ((List Pt) × Ls × Bool × (List Ts))) (x2_ : Im) => [(eL false eIm) items, eI most, (eL true (e2 (eL true eLt) eS)) s1_.1, (eL true eLt) s1_.2.1, eB s1_.2.2.1, (eL true eS) s1_.2.2.2, eI x2_.1, eS x2_.2.1, eS x2_.2.2]) (ei_it (x_v (eL false eIm) items rfl)) rfl (fun _ _ => rfl) (fun (s1_ : ((List Pt) × Ls × Bool × (List Ts))) (x2_ : Im) => (b_join (fun (s3_ : (Ls × Bool)) => [(eL false eIm) items, eI most, (eL true (e2 (eL true eLt) eS)) s1_.1, (eL true eLt) s3_.1, eB s3_.2, (eL true eS) s1_.2.2.2, eI x2_.1, eS x2_.2.1, eS x2_.2.2]) (et_andT (et_tru (x_v eB s1_.2.2.1 rfl)) (et_andT (et_b (x_m2 (o2_ne (e' := eS) (by decide)) (x_v eS x2_.2.1 rfl) (x_k eS ['e', 'n', 'd'] rfl))) (et_b (x_m2 (o2_ne (e' := eS) (by decide)) (x_v eS x2_.2.1 rfl) (x_k eS ['a', 'n', 'e', 'w'] rfl))))) (b_asg (fun (row : Ls) => [(eL false eIm) items, eI most, (eL true (e2 (eL true eLt) eS)) s1_.1, (eL true eLt) row, eB s1_.2.2.1, (eL true eS) s1_.2.2.2, eI x2_.1, eS x2_.2.1, eS x2_.2.2]) (eg_f (x_lst (f := (eL true eLt)) (fun t : Unit => ([] : Ls)) ea_nil (fun _ => rfl) (fun _ => (by decide : 0 ≤ LIM)))) (fun _ => rfl) (fun (row : Ls) => (b_asg (fun (stale : Bool) => [(eL false eIm) items, eI most, (eL true (e2 (eL true eLt) eS)) s1_.1, (eL true eLt) row, eB stale, (eL true eS) s1_.2.2.2, eI x2_.1, eS x2_.2.1, eS x2_.2.2]) (eg_f (x_k eB false rfl)) (fun _ => rfl) (fun (stale : Bool) => (b_nil (t := (row, stale)) ⟨rfl, rfl⟩))))) (b_nil (t := (s1_.2.1, s1_.2.2.1)) ⟨rfl, rfl⟩) (fun (s3_ : (Ls × Bool)) => (b_join (fun (s4_ : ((List Pt) × Ls × (List Ts))) => [(eL false eIm) items, eI most, (eL true (e2 (eL true eLt) eS)) s4_.1, (eL true eLt) s4_.2.1, eB s3_.2, (eL true eS) s4_.2.2, eI x2_.1, eS x2_.2.1, eS x2_.2.2]) (et_b (x_m2 (o2_eq (e' := eS) (by decide)) (x_v eS x2_.2.1 rfl) (x_k eS ['s', 'i', 'g', 'n'] rfl))) (b_join (fun (s5_ : ((List Pt) × Ls)) => [(eL false eIm) items, eI most, (eL true (e2 (eL true eLt) eS)) s5_.1, (eL true eLt) s5_.2, eB s3_.2, (eL true eS) s1_.2.2.2, eI x2_.1, eS x2_.2.1, eS x2_.2.2]) (et_b (x_m2 (o2_eq (e' := eI) (by decide)) (x_a1 o1_lenL (x_v (eL true eLt) s3_.1 rfl)) (x_v eI most rfl))) (b_expr (eg_appO (a := (e2 (eL true eLt) eS)) (xs := fun (r9_ : (Pt × Ls × Ts × Unit)) => s1_.1) (ys := fun (r9_ : (Pt × Ls × Ts × Unit)) => r9_.1) (env := fun p_ => [(eL false eIm) items, eI most, (eL true (e2 (eL true eLt) eS)) p_.2, .gone, eB s3_.2, (eL true eS) s1_.2.2.2, eI x2_.1, eS x2_.2.1, eS x2_.2.2]) rfl (eg_tupO (f := (e2 (eL true eLt) eS)) (fun (t8_ : Ls × Ts × Unit) => (t8_.1, t8_.2.1)) (eao_cons (eg_mv (eL true eLt) s3_.1 [(eL false eIm) items, eI most, (eL true (e2 (eL true eLt) eS)) s1_.1, .gone, eB s3_.2, (eL true eS) s1_.2.2.2, eI x2_.1, eS x2_.2.1, eS x2_.2.2] rfl rfl) (fun (r6_ : Ls) => (eao_cons (eg_f (x_k eS ['m', 'o', 'r', 'e'] rfl)) (fun (r7_ : Ts) => eao_nil)))) (fun _ => rfl) (fun _ => (by decide : 2 ≤ LIM))) (fun _ => rfl) (fun _ => rfl) (fun _ => rfl)) (fun (u11_ : ((Pt × Ls × Ts × Unit) × (List Pt))) => (b_asg (fun (row : Ls) => [(eL false eIm) items, eI most, (eL true (e2 (eL true eLt) eS)) u11_.2, (eL true eLt) row, eB s3_.2, (eL true eS) s1_.2.2.2, eI x2_.1, eS x2_.2.1, eS x2_.2.2]) (eg_f (x_lst (f := (eL true eLt)) (fun t : Unit => ([] : Ls)) ea_nil (fun _ => rfl) (fun _ => (by decide : 0 ≤ LIM)))) (fun _ => rfl) (fun (row : Ls) => (b_nil (t := (u11_.2, row)) ⟨rfl, rfl⟩))))) (b_nil (t := (s1_.1, s3_.1)) ⟨rfl, rfl⟩) (fun (s5_ : ((List Pt) × Ls)) => (b_asg (fun (row : Ls) => [(eL false eIm) items, eI most, (eL true (e2 (eL true eLt) eS)) s5_.1, (eL true eLt) row, eB s3_.2, (eL true eS) s1_.2.2.2, eI x2_.1, eS x2_.2.1, eS x2_.2.2]) (eg_f (x_m2 o2_catL (x_v (eL true eLt) s5_.2 rfl) (x_lst (f := (eL true eLt)) (fun t : Lt × Unit => ([t.1] : Ls)) (ea_cons (x_tup (f := eLt) (fun t : Ts × Ts × Ts × Int × Unit => (t.1, t.2.1, t.2.2.1, t.2.2.2.1)) (ea_cons (x_v eS x2_.2.2 rfl) (ea_cons (x_m2 o2_ixL (x_v (eL true eS) s1_.2.2.2 rfl) (x_k eI (0) rfl)) (ea_cons (x_m2 o2_ixL (x_v (eL true eS) s1_.2.2.2 rfl) (x_k eI (1) rfl)) (ea_cons (x_v eI x2_.1 rfl) ea_nil)))) (fun _ => rfl) (fun _ => (by decide : 4 ≤ LIM))) ea_nil) (fun _ => rfl) (fun _ => (by decide : 1 ≤ LIM))))) (fun _ => rfl) (fun (row : Ls) => (b_nil (t := (s5_.1, row, s1_.2.2.2)) ⟨rfl, rfl⟩))))) (b_join (fun (s16_ : (List Ts)) => [(eL false eIm) items, eI most, (eL true (e2 (eL true eLt) eS)) s1_.1, (eL true eLt) s3_.1, eB s3_.2, (eL true eS) s16_, eI x2_.1, eS x2_.2.1, eS x2_.2.2]) (et_b (x_m2 (o2_eq (e' := eS) (by decide)) (x_v eS x2_.2.1 rfl) (x_k eS ['i', 'n', 'k'] rfl))) (b_store (a := eS) (v := fun u17_ => u17_) (xs := fun u17_ => s1_.2.2.2) (fun p19_ => [(eL false eIm) items, eI most, (eL true (e2 (eL true eLt) eS)) s1_.1, (eL true eLt) s3_.1, eB s3_.2, (eL true eS) p19_.2, eI x2_.1, eS x2_.2.1, eS x2_.2.2]) (eg_r (x_v eS x2_.2.2 rfl)) (fun _ => rfl) (fun _ => rfl) (fun u17_ => (x_k eI (0) rfl)) (fun _ => rfl) (fun p19_ => (b_nil (t := p19_.2) ⟨rfl, rfl⟩))) (b_join (fun (s21_ : (List Ts)) => [(eL false eIm) items, eI most, (eL true (e2 (eL true eLt) eS)) s1_.1, (eL true eLt) s3_.1, eB s3_.2, (eL true eS) s21_, eI x2_.1, eS x2_.2.1, eS x2_.2.2]) (et_b (x_m2 (o2_eq (e' := eS) (by decide)) (x_v eS x2_.2.1 rfl) (x_k eS ['g', 'r', 'o', 'u', 'n', 'd'] rfl))) (b_store (a := eS) (v := fun u22_ => u22_) (xs := fun u22_ => s1_.2.2.2) (fun p24_ => [(eL false eIm) items, eI most, (eL true (e2 (eL true eLt) eS)) s1_.1, (eL true eLt) s3_.1, eB s3_.2, (eL true eS) p24_.2, eI x2_.1, eS x2_.2.1, eS x2_.2.2]) (eg_r (x_v eS x2_.2.2 rfl)) (fun _ => rfl) (fun _ => rfl) (fun u22_ => (x_k eI (1) rfl)) (fun _ => rfl) (fun p24_ => (b_nil (t := p24_.2) ⟨rfl, rfl⟩))) (b_asg (fun (colours : (List Ts)) => [(eL false eIm) items, eI most, (eL true (e2 (eL true eLt) eS)) s1_.1, (eL true eLt) s3_.1, eB s3_.2, (eL true eS) colours, eI x2_.1, eS x2_.2.1, eS x2_.2.2]) (eg_f (x_lst (f := (eL true eS)) (fun t : Ts × Ts × Unit => ([t.1, t.2.1] : (List Ts))) (ea_cons (x_k eS ['.'] rfl) (ea_cons (x_k eS ['.'] rfl) ea_nil)) (fun _ => rfl) (fun _ => (by decide : 2 ≤ LIM)))) (fun _ => rfl) (fun (colours : (List Ts)) => (b_nil (t := colours) ⟨rfl, rfl⟩))) (fun (s21_ : (List Ts)) => (b_nil (t := s21_) ⟨rfl, rfl⟩))) (fun (s16_ : (List Ts)) => (b_nil (t := (s1_.1, s3_.1, s16_)) ⟨rfl, rfl⟩))) (fun (s4_ : ((List Pt) × Ls × (List Ts))) => (b_join (fun (s26_ : Bool) => [(eL false eIm) items, eI most, (eL true (e2 (eL true eLt) eS)) s4_.1, (eL true eLt) s4_.2.1, eB s26_, (eL true eS) s4_.2.2, eI x2_.1, eS x2_.2.1, eS x2_.2.2]) (et_b (x_m2 (o2_eq (e' := eS) (by decide)) (x_v eS x2_.2.1 rfl) (x_k eS ['a', 'n', 'e', 'w'] rfl))) (b_asg (fun (stale : Bool) => [(eL false eIm) items, eI most, (eL true (e2 (eL true eLt) eS)) s4_.1, (eL true eLt) s4_.2.1, eB stale, (eL true eS) s4_.2.2, eI x2_.1, eS x2_.2.1, eS x2_.2.2]) (eg_f (x_k eB true rfl)) (fun _ => rfl) (fun (stale : Bool) => (b_nil (t := stale) ⟨rfl, rfl⟩))) (b_nil (t := s3_.2) ⟨rfl, rfl⟩) (fun (s26_ : Bool) => (b_join (fun (s27_ : ((List Pt) × Ls × Bool)) => [(eL false eIm) items, eI most, (eL true (e2 (eL true eLt) eS)) s27_.1, (eL true eLt) s27_.2.1, eB s27_.2.2, (eL true eS) s4_.2.2, eI x2_.1, eS x2_.2.1, eS x2_.2.2]) (et_b (x_m2 (o2_eq (e' := eS) (by decide)) (x_v eS x2_.2.1 rfl) (x_k eS ['e', 'n', 'd'] rfl))) (b_expr (eg_appO (a := (e2 (eL true eLt) eS)) (xs := fun (r31_ : (Pt × Ls × Ts × Unit)) => s4_.1) (ys := fun (r31_ : (Pt × Ls × Ts × Unit)) => r31_.1) (env := fun p_ => [(eL false eIm) items, eI most, (eL true (e2 (eL true eLt) eS)) p_.2, .gone, eB s26_, (eL true eS) s4_.2.2, eI x2_.1, eS x2_.2.1, eS x2_.2.2]) rfl (eg_tupO (f := (e2 (eL true eLt) eS)) (fun (t30_ : Ls × Ts × Unit) => (t30_.1, t30_.2.1)) (eao_cons (eg_mv (eL true eLt) s4_.2.1 [(eL false eIm) items, eI most, (eL true (e2 (eL true eLt) eS)) s4_.1, .gone, eB s26_, (eL true eS) s4_.2.2, eI x2_.1, eS x2_.2.1, eS x2_.2.2] rfl rfl) (fun (r28_ : Ls) => (eao_cons (eg_f (x_k eS ['w', 'h', 'o', 'l', 'e'] rfl)) (fun (r29_ : Ts) => eao_nil)))) (fun _ => rfl) (fun _ => (by decide : 2 ≤ LIM))) (fun _ => rfl) (fun _ => rfl) (fun _ => rfl)) (fun (u33_ : ((Pt × Ls × Ts × Unit) × (List Pt))) => (b_asg (fun (row : Ls) => [(eL false eIm) items, eI most, (eL true (e2 (eL true eLt) eS)) u33_.2, (eL true eLt) row, eB s26_, (eL true eS) s4_.2.2, eI x2_.1, eS x2_.2.1, eS x2_.2.2]) (eg_f (x_lst (f := (eL true eLt)) (fun t : Unit => ([] : Ls)) ea_nil (fun _ => rfl) (fun _ => (by decide : 0 ≤ LIM)))) (fun _ => rfl) (fun (row : Ls) => (b_asg (fun (stale : Bool) => [(eL false eIm) items, eI most, (eL true (e2 (eL true eLt) eS)) u33_.2, (eL true eLt) row, eB stale, (eL true eS) s4_.2.2, eI x2_.1, eS x2_.2.1, eS x2_.2.2]) (eg_f (x_k eB false rfl)) (fun _ => rfl) (fun (stale : Bool) => (b_nil (t := (u33_.2, row, stale)) ⟨rfl, rfl⟩))))))) (b_nil (t := (s4_.1, s4_.2.1, s26_)) ⟨rfl, rfl⟩) (fun (s27_ : ((List Pt) × Ls × Bool)) => (b_nil (t := (s27_.1, s27_.2.1, s27_.2.2, s4_.2.2)) ⟨rfl, rfl⟩)))))))))) (fun (s1_ : ((List Pt) × Ls × Bool × (List Ts))) => (b_ret (k := fun (u37_ : (((List Pt) × Ls) × (List Pt) × Ls × Unit)) => u37_.1) (eg_tupO (f := (e2 (eL true (e2 (eL true eLt) eS)) (eL true eLt))) (fun (t36_ : (List Pt) × Ls × Unit) => (t36_.1, t36_.2.1)) (eao_cons (eg_mv (eL true (e2 (eL true eLt) eS)) s1_.1 [(eL false eIm) items, eI most, .gone, (eL true eLt) s1_.2.1, eB s1_.2.2.1, (eL true eS) s1_.2.2.2, .gone, .gone, .gone] rfl rfl) (fun (r34_ : (List Pt)) => (eao_cons (eg_mv (eL true eLt) s1_.2.1 [(eL false eIm) items, eI most, .gone, .gone, eB s1_.2.2.1, (eL true eS) s1_.2.2.2, .gone, .gone, .gone] rfl rfl) (fun (r35_ : Ls) => eao_nil)))) (fun _ => rfl) (fun _ => (by decide : 2 ≤ LIM))) (fun u37_ => ⟨.inl rfl, rfl⟩))))))))))))
  refine run_T (n := 9) (kp := [true, true]) (m := m_lw_parts) (ds := [(eL false eIm) items, eI most]) rfl hb ?_
  first
    | (simp -implicitDefEqProofs only [t_lw_parts_c, Option.bind_assoc, Option.bind_some, bind_same] at h ⊢; exact h)
    | (simp -implicitDefEqProofs only [t_lw_parts_c, Option.bind_assoc, Option.bind_some, bind_same] at h; exact h)
    | exact h
    | (simp [t_lw_parts_c] at h ⊢; exact h)
theorem T_lw_parts : Tf (τ := (List Im) × Int × Unit) (fun t => [(eL false eIm) t.1, eI t.2.1]) (e2 (eL true (e2 (eL true eLt) eS)) (eL true eLt)) F_lw_parts (fun t => t_lw_parts_c t.1 t.2.1) := fun t r h => ⟨_, L_lw_parts t.1 t.2.1 h⟩
theorem L_lw_whole__X1  (found : An) {r : Bool} (h : t_lw_whole__X1 found = some r) : F_lw_whole__X1 [eA found] = some (eB r, (fun _ => [eA found]) r) := by
  have hb : Bk (Qf eB [true] (fun _ => [eA found])) m_lw_whole__X1 [eA found] _ := (b_retI (eg_f (x_and (x_isiA (x_v eA found rfl)) (x_not (x_isiA (x_v eA found rfl))))) (fun u3_ => ⟨.inl rfl, rfl⟩))
  refine run_T (n := 1) (kp := [true]) (m := m_lw_whole__X1) (ds := [eA found]) rfl hb ?_
  first
    | (simp -implicitDefEqProofs only [t_lw_whole__X1, Option.bind_assoc, Option.bind_some, bind_same] at h ⊢; exact h)
    | (simp -implicitDefEqProofs only [t_lw_whole__X1, Option.bind_assoc, Option.bind_some, bind_same] at h; exact h)
    | exact h
    | (simp [t_lw_whole__X1] at h ⊢; exact h)
theorem T_lw_whole__X1 : Tf (τ := An × Unit) (fun t => [eA t.1]) eB F_lw_whole__X1 (fun t => t_lw_whole__X1 t.1) := fun t r h => ⟨_, L_lw_whole__X1 t.1 h⟩
theorem L_lw_whole  (found : Int) {r : Bool} (h : t_lw_whole found = some r) : F_lw_whole [eI found] = some (eB r, (fun _ => [eI found]) r) := by
  have hb : Bk (Qf eB [true] (fun _ => [eI found])) m_lw_whole [eI found] _ := (b_ret (k := fun (u1_ : Bool) => u1_) (eg_f (x_andT (x_isK kit_int_int (x_v eI found rfl)) (x_not (x_isK kit_int_bool (x_v eI found rfl))))) (fun u1_ => ⟨.inl rfl, rfl⟩))
  refine run_T (n := 1) (kp := [true]) (m := m_lw_whole) (ds := [eI found]) rfl hb ?_
  first
    | (simp -implicitDefEqProofs only [t_lw_whole, Option.bind_assoc, Option.bind_some, bind_same] at h ⊢; exact h)
    | (simp -implicitDefEqProofs only [t_lw_whole, Option.bind_assoc, Option.bind_some, bind_same] at h; exact h)
    | exact h
    | (simp [t_lw_whole] at h ⊢; exact h)
theorem T_lw_whole : Tf (τ := Int × Unit) (fun t => [eI t.1]) eB F_lw_whole (fun t => t_lw_whole t.1) := fun t r h => ⟨_, L_lw_whole t.1 h⟩
theorem L_lw_letters_right  (found : Ls) (due : Ls) {r : Bool} (h : t_lw_letters_right found due = some r) : F_lw_letters_right [eLs found, eLs due] = some (eB r, (fun _ => [eLs found, eLs due]) r) := by
  have hb : Bk (Qf eB [true, true] (fun _ => [eLs found, eLs due])) m_lw_letters_right [eLs found, eLs due, .gone, .gone] _ := (b_ifT (et_orT (et_not (et_tru (x_isK kit_list_list (x_v eLs found rfl)))) (et_b (x_m2 (o2_ne (e' := eI) (by decide)) (x_a1 o1_lenL (x_v eLs found rfl)) (x_a1 o1_lenL (x_v eLs due rfl))))) (b_ret (k := fun (u1_ : Bool) => u1_) (eg_f (x_k eB false rfl)) (fun u1_ => ⟨rfl, ⟨.inl rfl, rfl⟩⟩)) (b_forR (fun (s2_ : Unit) => [eLs found, eLs due, .gone, .gone]) () (fun (s2_ : Unit) (letter : Lt) => [eLs found, eLs due, eLt letter, .gone]) (ei_it (x_v eLs found rfl)) rfl (fun _ _ => rfl) (fun (s2_ : Unit) (letter : Lt) => (b_ifT (et_or (et_not (et_tru (x_isK kit_tuple_tuple (x_v eLt letter rfl)))) (et_or (et_b (x_m2 (o2_ne (e' := eI) (by decide)) (x_a1 (o1_lenK (n := 4) (fun _ => rfl)) (x_v eLt letter rfl)) (x_k eI (4) rfl))) (et_not (et_tru (x_call T_lw_whole (ea_cons (x_pr (f := eI) 3 (fun t : Lt => t.2.2.2) (fun _ => rfl) (x_v eLt letter rfl)) ea_nil)))))) (b_ret (k := fun (u4_ : Bool) => (.rt u4_ : (St Unit Bool))) (eg_f (x_k eB false rfl)) (fun u4_ => ⟨rfl, ⟨rfl, ⟨.inl rfl, rfl⟩⟩⟩)) (b_ifT (et_b (x_m2 (o2_ne (e' := (eL false eB)) (by decide)) (x_comp (fun (thing : Ts) => [eLs found, eLs due, eLt letter, eS thing]) (ei_itV (x_map (e := (e3 eS eS eS)) (f := (eV eS)) (fun t : (Ts × Ts × Ts) => ([t.1, t.2.1, t.2.2] : (List Ts))) (fun _ => rfl) (x_slK (f := (e3 eS eS eS)) none (some (3)) (fun t : Lt => (t.1, t.2.1, t.2.2.1)) (fun _ => rfl) (fun _ => rfl) (x_v eLt letter rfl) rfl rfl))) (fun _ => rfl) (fun (thing : Ts) => et_yes) (fun (thing : Ts) => (x_isK kit_str_str (x_v eS thing rfl)))) (x_lst (f := (eL true eB)) (fun t : Bool × Bool × Bool × Unit => ([t.1, t.2.1, t.2.2.1] : (List Bool))) (ea_cons (x_k eB true rfl) (ea_cons (x_k eB true rfl) (ea_cons (x_k eB true rfl) ea_nil))) (fun _ => rfl) (fun _ => (by decide : 3 ≤ LIM))))) (b_ret (k := fun (u7_ : Bool) => (.rt u7_ : (St Unit Bool))) (eg_f (x_k eB false rfl)) (fun u7_ => ⟨rfl, ⟨rfl, ⟨.inl rfl, rfl⟩⟩⟩)) (b_nil (t := (.nx () : (St Unit Bool))) ⟨rfl, rfl⟩)))) (fun (s2_ : Unit) => (b_ret (k := fun (u10_ : Bool) => u10_) (eg_f (x_m2 (o2_eq (e' := eLs) (by decide)) (x_v eLs found rfl) (x_v eLs due rfl))) (fun u10_ => ⟨.inl rfl, rfl⟩)))))
  refine run_T (n := 4) (kp := [true, true]) (m := m_lw_letters_right) (ds := [eLs found, eLs due]) rfl hb ?_
  first
    | (simp -implicitDefEqProofs only [t_lw_letters_right, Option.bind_assoc, Option.bind_some, bind_same] at h ⊢; exact h)
    | (simp -implicitDefEqProofs only [t_lw_letters_right, Option.bind_assoc, Option.bind_some, bind_same] at h; exact h)
    | exact h
    | (simp [t_lw_letters_right] at h ⊢; exact h)
theorem T_lw_letters_right : Tf (τ := Ls × Ls × Unit) (fun t => [eLs t.1, eLs t.2.1]) eB F_lw_letters_right (fun t => t_lw_letters_right t.1 t.2.1) := fun t r h => ⟨_, L_lw_letters_right t.1 t.2.1 h⟩
theorem L_lw_parts_right  (found : (List Pt)) (due : (List Pt)) {r : Bool} (h : t_lw_parts_right found due = some r) : F_lw_parts_right [ePs found, ePs due] = some (eB r, (fun _ => [ePs found, ePs due]) r) := by
  have hb : Bk (Qf eB [true, true] (fun _ => [ePs found, ePs due])) m_lw_parts_right [ePs found, ePs due, .gone, .gone] _ := (b_ifT (et_orT (et_not (et_tru (x_isK kit_list_list (x_v ePs found rfl)))) (et_b (x_m2 (o2_ne (e' := eI) (by decide)) (x_a1 o1_lenL (x_v ePs found rfl)) (x_a1 o1_lenL (x_v ePs due rfl))))) (b_ret (k := fun (u1_ : Bool) => u1_) (eg_f (x_k eB false rfl)) (fun u1_ => ⟨rfl, ⟨.inl rfl, rfl⟩⟩)) (b_forR (fun (s2_ : Unit) => [ePs found, ePs due, .gone, .gone]) () (fun (s2_ : Unit) (x3_ : (Pt × Pt)) => [ePs found, ePs due, ePt x3_.1, ePt x3_.2]) (ei_zip (x_v ePs found rfl) (x_v ePs due rfl)) rfl (fun _ _ => rfl) (fun (s2_ : Unit) (x3_ : (Pt × Pt)) => (b_ifT (et_orT (et_not (et_tru (x_isK kit_tuple_tuple (x_v ePt x3_.1 rfl)))) (et_orT (et_b (x_m2 (o2_ne (e' := eI) (by decide)) (x_a1 (o1_lenK (n := 2) (fun _ => rfl)) (x_v ePt x3_.1 rfl)) (x_k eI (2) rfl))) (et_b (x_m2 (o2_ne (e' := eS) (by decide)) (x_pr (f := eS) 1 (fun t : Pt => t.2) (fun _ => rfl) (x_v ePt x3_.1 rfl)) (x_pr (f := eS) 1 (fun t : Pt => t.2) (fun _ => rfl) (x_v ePt x3_.2 rfl)))))) (b_ret (k := fun (u4_ : Bool) => (.rt u4_ : (St Unit Bool))) (eg_f (x_k eB false rfl)) (fun u4_ => ⟨rfl, ⟨rfl, ⟨.inl rfl, rfl⟩⟩⟩)) (b_ifT (et_not (et_tru (x_call T_lw_letters_right (ea_cons (x_pr (f := eLs) 0 (fun t : Pt => t.1) (fun _ => rfl) (x_v ePt x3_.1 rfl)) (ea_cons (x_pr (f := eLs) 0 (fun t : Pt => t.1) (fun _ => rfl) (x_v ePt x3_.2 rfl)) ea_nil))))) (b_ret (k := fun (u6_ : Bool) => (.rt u6_ : (St Unit Bool))) (eg_f (x_k eB false rfl)) (fun u6_ => ⟨rfl, ⟨rfl, ⟨.inl rfl, rfl⟩⟩⟩)) (b_nil (t := (.nx () : (St Unit Bool))) ⟨rfl, rfl⟩)))) (fun (s2_ : Unit) => (b_ret (k := fun (u8_ : Bool) => u8_) (eg_f (x_k eB true rfl)) (fun u8_ => ⟨.inl rfl, rfl⟩)))))
  refine run_T (n := 4) (kp := [true, true]) (m := m_lw_parts_right) (ds := [ePs found, ePs due]) rfl hb ?_
  first
    | (simp -implicitDefEqProofs only [t_lw_parts_right, Option.bind_assoc, Option.bind_some, bind_same] at h ⊢; exact h)
    | (simp -implicitDefEqProofs only [t_lw_parts_right, Option.bind_assoc, Option.bind_some, bind_same] at h; exact h)
    | exact h
    | (simp [t_lw_parts_right] at h ⊢; exact h)
theorem T_lw_parts_right : Tf (τ := (List Pt) × (List Pt) × Unit) (fun t => [ePs t.1, ePs t.2.1]) eB F_lw_parts_right (fun t => t_lw_parts_right t.1 t.2.1) := fun t r h => ⟨_, L_lw_parts_right t.1 t.2.1 h⟩
theorem L_lw_bad_most  (cell_here : Int) {r : An} (h : t_lw_bad_most cell_here = some r) : F_lw_bad_most [eI cell_here] = some (eA r, (fun _ => [eI cell_here]) r) := by
  have hb : Bk (Qf eA [true] (fun _ => [eI cell_here])) m_lw_bad_most [eI cell_here, .gone, .gone] _ := (b_asg (fun (far : Int) => [eI cell_here, eI far, .gone]) (eg_f (x_modP 1000 (by decide) (x_call T_lw_mix (ea_cons (x_v eI cell_here rfl) (ea_cons (x_k eI (1) rfl) ea_nil))) (x_k eI (1000) rfl))) (fun _ => rfl) (fun (far : Int) => (b_asg (fun (some_ : (List An)) => [eI cell_here, eI far, (eL false eA) some_]) (eg_f (x_cold (x_lst (f := (eL true eA)) (fun t : An × An × An × An × An × An × An × An × An × An × An × An × Unit => ([t.1, t.2.1, t.2.2.1, t.2.2.2.1, t.2.2.2.2.1, t.2.2.2.2.2.1, t.2.2.2.2.2.2.1, t.2.2.2.2.2.2.2.1, t.2.2.2.2.2.2.2.2.1, t.2.2.2.2.2.2.2.2.2.1, t.2.2.2.2.2.2.2.2.2.2.1, t.2.2.2.2.2.2.2.2.2.2.2.1] : (List An))) (ea_cons (x_map (e := eI) (f := eA) (an eI) (fun _ => rfl) (x_k eI (0) rfl)) (ea_cons (x_map (e := eI) (f := eA) (an eI) (fun _ => rfl) (x_k eI (201) rfl)) (ea_cons (x_map (e := eI) (f := eA) (an eI) (fun _ => rfl) (x_m2 o2_addI (x_k eI (201) rfl) (x_v eI far rfl))) (ea_cons (x_map (e := eI) (f := eA) (an eI) (fun _ => rfl) (x_m2 o2_subI (x_m1 o1_neg (x_k eI (1) rfl)) (x_v eI far rfl))) (ea_cons (x_map (e := eB) (f := eA) (an eB) (fun _ => rfl) (x_k eB true rfl)) (ea_cons (x_map (e := eB) (f := eA) (an eB) (fun _ => rfl) (x_k eB false rfl)) (ea_cons (x_map (e := eU) (f := eA) (an eU) (fun _ => rfl) (x_k eU () rfl)) (ea_cons (x_map (e := eS) (f := eA) (an eS) (fun _ => rfl) (x_k eS ['5'] rfl)) (ea_cons (x_map (e := (eL false eI)) (f := eA) (an (eL false eI)) (fun _ => rfl) (x_cold (x_lst (f := (eL true eI)) (fun t : Int × Unit => ([t.1] : (List Int))) (ea_cons (x_k eI (5) rfl) ea_nil) (fun _ => rfl) (fun _ => (by decide : 1 ≤ LIM))))) (ea_cons (x_map (e := (e1 eI)) (f := eA) (an (e1 eI)) (fun _ => rfl) (x_tup (f := (e1 eI)) (fun t : Int × Unit => (t.1)) (ea_cons (x_k eI (5) rfl) ea_nil) (fun _ => rfl) (fun _ => (by decide : 1 ≤ LIM)))) (ea_cons (x_map (e := (eD false kS eI)) (f := eA) (an (eD false kS eI)) (fun _ => rfl) (x_cold (x_disp eS (edp_nil (kk := kS) (a := eI))))) (ea_cons (x_map (e := eI) (f := eA) (an eI) (fun _ => rfl) (x_m2 o2_addI (x_pow 10 30 1000000000000000000000000000000 (by decide)) (x_v eI far rfl))) ea_nil)))))))))))) (fun _ => rfl) (fun _ => (by decide : 12 ≤ LIM))))) (fun _ => rfl) (fun (some_ : (List An)) => (b_retI (eg_r (x_m2 o2_ixL (x_v (eL false eA) some_ rfl) (x_modP 12 (by decide) (x_call T_lw_mix (ea_cons (x_v eI cell_here rfl) (ea_cons (x_k eI (0) rfl) ea_nil))) (x_k eI (12) rfl)))) (fun u6_ => ⟨.inl rfl, rfl⟩))))))
  refine run_T (n := 3) (kp := [true]) (m := m_lw_bad_most) (ds := [eI cell_here]) rfl hb ?_
  first
    | (simp -implicitDefEqProofs only [t_lw_bad_most, Option.bind_assoc, Option.bind_some, bind_same] at h ⊢; exact h)
    | (simp -implicitDefEqProofs only [t_lw_bad_most, Option.bind_assoc, Option.bind_some, bind_same] at h; exact h)
    | exact h
    | (simp [t_lw_bad_most] at h ⊢; exact h)
theorem T_lw_bad_most : Tf (τ := Int × Unit) (fun t => [eI t.1]) eA F_lw_bad_most (fun t => t_lw_bad_most t.1) := fun t r h => ⟨_, L_lw_bad_most t.1 h⟩
theorem T_lw_word : Tex (e2 eS eA) F_lw_word (fun e => t_lw_word e) := fun e_ r h => by
  have hb : Bk (Qf (e2 eS eA) [true] (fun _ => [.gone])) (m_lw_word e_.1 (exF e_) (exD e_)) [.gone] _ := (b_ifT (et_tru (x_k eB (([5, 9, 3, 2, 8, 7, 10, 4] : List Nat).any (subX e_.1)) rfl)) (b_ret (k := fun (u1_ : (Ts × An)) => u1_) (eg_f (x_tup (f := (e2 eS eA)) (fun t : Ts × An × Unit => (t.1, t.2.1)) (ea_cons (x_k eS ['o', 't', 'h', 'e', 'r'] rfl) (ea_cons (x_map (e := eI) (f := eA) (an eI) (fun _ => rfl) (x_k eI (0) rfl)) ea_nil)) (fun _ => rfl) (fun _ => (by decide : 2 ≤ LIM)))) (fun u1_ => ⟨rfl, ⟨.inl rfl, rfl⟩⟩)) (b_ifT (et_orT (et_andT (et_tru (x_k eB (subX e_.1 6) rfl)) (et_tru (x_k eB (subX e_.1 1) rfl))) (et_not (et_tru (x_k eB true rfl)))) (b_ret (k := fun (u2_ : (Ts × An)) => u2_) (eg_f (x_tup (f := (e2 eS eA)) (fun t : Ts × An × Unit => (t.1, t.2.1)) (ea_cons (x_k eS ['o', 't', 'h', 'e', 'r'] rfl) (ea_cons (x_map (e := eI) (f := eA) (an eI) (fun _ => rfl) (x_k eI (0) rfl)) ea_nil)) (fun _ => rfl) (fun _ => (by decide : 2 ≤ LIM)))) (fun u2_ => ⟨rfl, ⟨.inl rfl, rfl⟩⟩)) (b_ifT (et_tru (x_k eB (subX e_.1 6) rfl)) (b_ret (k := fun (u3_ : (Ts × An)) => u3_) (eg_f (x_tup (f := (e2 eS eA)) (fun t : Ts × An × Unit => (t.1, t.2.1)) (ea_cons (x_k eS ['s', 'i', 'z', 'e'] rfl) (ea_cons (x_map (e := eI) (f := eA) (an eI) (fun _ => rfl) (x_k eI (0) rfl)) ea_nil)) (fun _ => rfl) (fun _ => (by decide : 2 ≤ LIM)))) (fun u3_ => ⟨rfl, ⟨.inl rfl, rfl⟩⟩)) (b_ifT (et_and (et_tru (x_k eB (subX e_.1 1) rfl)) (et_tru (x_call T_lw_whole__X1 (ea_cons x_fldX ea_nil)))) (b_retI (eg_f (x_tup (f := (e2 eS eA)) (fun t : Ts × An × Unit => (t.1, t.2.1)) (ea_cons (x_k eS ['s', 'i', 'g', 'n'] rfl) (ea_cons x_fldX ea_nil)) (fun _ => rfl) (fun _ => (by decide : 2 ≤ LIM)))) (fun u6_ => ⟨rfl, ⟨.inl rfl, rfl⟩⟩)) (b_ret (k := fun (u7_ : (Ts × An)) => u7_) (eg_f (x_tup (f := (e2 eS eA)) (fun t : Ts × An × Unit => (t.1, t.2.1)) (ea_cons (x_k eS ['o', 't', 'h', 'e', 'r'] rfl) (ea_cons (x_map (e := eI) (f := eA) (an eI) (fun _ => rfl) (x_k eI (0) rfl)) ea_nil)) (fun _ => rfl) (fun _ => (by decide : 2 ≤ LIM)))) (fun u7_ => ⟨.inl rfl, rfl⟩))))))
  refine run_TE (n := 1) (m := m_lw_word) hb ?_
  first
    | (simp -implicitDefEqProofs only [t_lw_word, Option.bind_assoc, Option.bind_some, bind_same] at h ⊢; exact h)
    | (simp -implicitDefEqProofs only [t_lw_word, Option.bind_assoc, Option.bind_some, bind_same] at h; exact h)
    | exact h
    | (simp [t_lw_word] at h ⊢; exact h)
theorem L_lw_asked  (text : An) (most : An) {r : (Ts × An)} (h : t_lw_asked text most = some r) : F_lw_asked [eA text, eA most] = some ((e2 eS eA) r, (fun _ => [eA text, eA most]) r) := by
  have hb : Bk (Qf (e2 eS eA) [true, true] (fun _ => [eA text, eA most])) m_lw_asked [eA text, eA most, .gone] _ := (b_seqQ (fun (s1_ : Unit) => [eA text, eA most, .gone]) (b_tryE (k := fun _ => (.inl () : (Unit ⊕ (Ts × An)))) (fun e_ => okL xL_OutError e_.1 (exF e_)) (x_callX T_rows_of__X1 (ea_cons (x_v eA text rfl) (ea_cons (x_v eA most rfl) ea_nil))) (fun _ h => h) rfl rfl (fun _ => ⟨rfl, rfl⟩) (fun (e2_ : Exn) => (b_ret (k := fun (u3_ : (Ts × An)) => (.inr u3_ : (Unit ⊕ (Ts × An)))) (eg_f (x_callE T_lw_word)) (fun u3_ => ⟨rfl, ⟨rfl, ⟨.inl rfl, rfl⟩⟩⟩)))) (fun (s1_ : Unit) => (b_ret (k := fun (u4_ : (Ts × An)) => u4_) (eg_f (x_tup (f := (e2 eS eA)) (fun t : Ts × An × Unit => (t.1, t.2.1)) (ea_cons (x_k eS ['t', 'o', 'l', 'd'] rfl) (ea_cons (x_map (e := eI) (f := eA) (an eI) (fun _ => rfl) (x_k eI (0) rfl)) ea_nil)) (fun _ => rfl) (fun _ => (by decide : 2 ≤ LIM)))) (fun u4_ => ⟨.inl rfl, rfl⟩))))
  refine run_T (n := 3) (kp := [true, true]) (m := m_lw_asked) (ds := [eA text, eA most]) rfl hb ?_
  first
    | (simp -implicitDefEqProofs only [t_lw_asked, Option.bind_assoc, Option.bind_some, bind_same] at h ⊢; exact h)
    | (simp -implicitDefEqProofs only [t_lw_asked, Option.bind_assoc, Option.bind_some, bind_same] at h; exact h)
    | exact h
    | (simp [t_lw_asked] at h ⊢; exact h)
theorem T_lw_asked : Tf (τ := An × An × Unit) (fun t => [eA t.1, eA t.2.1]) (e2 eS eA) F_lw_asked (fun t => t_lw_asked t.1 t.2.1) := fun t r h => ⟨_, L_lw_asked t.1 t.2.1 h⟩
theorem L_lw_made  (most : An) {r : (Ts × An)} (h : t_lw_made most = some r) : F_lw_made [eA most] = some ((e2 eS eA) r, (fun _ => [eA most]) r) := by
  have hb : Bk (Qf (e2 eS eA) [true] (fun _ => [eA most])) m_lw_made [eA most, .gone] _ := (b_seqQ (fun (s1_ : Unit) => [eA most, .gone]) (b_tryE (k := fun _ => (.inl () : (Unit ⊕ (Ts × An)))) (fun e_ => okL xL_OutError e_.1 (exF e_)) (x_mkX T_Maker_init__X1 (ea_cons (x_v eA most rfl) ea_nil)) (fun _ h => h) rfl rfl (fun _ => ⟨rfl, rfl⟩) (fun (e2_ : Exn) => (b_ret (k := fun (u3_ : (Ts × An)) => (.inr u3_ : (Unit ⊕ (Ts × An)))) (eg_f (x_callE T_lw_word)) (fun u3_ => ⟨rfl, ⟨rfl, ⟨.inl rfl, rfl⟩⟩⟩)))) (fun (s1_ : Unit) => (b_ret (k := fun (u4_ : (Ts × An)) => u4_) (eg_f (x_tup (f := (e2 eS eA)) (fun t : Ts × An × Unit => (t.1, t.2.1)) (ea_cons (x_k eS ['t', 'o', 'l', 'd'] rfl) (ea_cons (x_map (e := eI) (f := eA) (an eI) (fun _ => rfl) (x_k eI (0) rfl)) ea_nil)) (fun _ => rfl) (fun _ => (by decide : 2 ≤ LIM)))) (fun u4_ => ⟨.inl rfl, rfl⟩))))
  refine run_T (n := 2) (kp := [true]) (m := m_lw_made) (ds := [eA most]) rfl hb ?_
  first
    | (simp -implicitDefEqProofs only [t_lw_made, Option.bind_assoc, Option.bind_some, bind_same] at h ⊢; exact h)
    | (simp -implicitDefEqProofs only [t_lw_made, Option.bind_assoc, Option.bind_some, bind_same] at h; exact h)
    | exact h
    | (simp [t_lw_made] at h ⊢; exact h)
theorem T_lw_made : Tf (τ := An × Unit) (fun t => [eA t.1]) (e2 eS eA) F_lw_made (fun t => t_lw_made t.1) := fun t r h => ⟨_, L_lw_made t.1 h⟩
theorem L_lw_by_turns  (script : (List Int)) (mosts : (List Int)) {r : Bool} (h : t_lw_by_turns script mosts = some r) : F_lw_by_turns [eC script, (eL false eI) mosts] = some (eB r, (fun _ => [eC script, (eL false eI) mosts]) r) := by
  have hb : Bk (Qf eB [true, true] (fun _ => [eC script, (eL false eI) mosts])) m_lw_by_turns [eC script, (eL false eI) mosts, .gone, .gone, .gone, .gone, .gone, .gone, .gone, .gone, .gone, .gone, .gone] _ := (b_asg (fun (makers : (List OMaker)) => [eC script, (eL false eI) mosts, (eL true (e_Maker true)) makers, .gone, .gone, .gone, .gone, .gone, .gone, .gone, .gone, .gone, .gone]) (eg_f (x_compO (fun (most : Int) => [eC script, (eL false eI) mosts, .gone, .gone, .gone, .gone, .gone, .gone, .gone, .gone, .gone, .gone, eI most]) (ei_itV (x_v (eL false eI) mosts rfl)) (fun _ => rfl) (fun (most : Int) => et_yes) (fun (most : Int) => (x_mk T_Maker_init (ea_cons (x_v eI most rfl) ea_nil))))) (fun _ => rfl) (fun (makers : (List OMaker)) => (b_asg (fun (u6_ : ((List (List Im)) × (List Im) × (List Im) × (List Im) × Unit)) => [eC script, (eL false eI) mosts, (eL true (e_Maker true)) makers, (eL true (eL true eIm)) u6_.1, .gone, .gone, .gone, .gone, .gone, .gone, .gone, .gone, .gone]) (eg_lstO (f := (eL true (eL true eIm))) (fun (t5_ : (List Im) × (List Im) × (List Im) × Unit) => ([t5_.1, t5_.2.1, t5_.2.2.1] : (List (List Im)))) (eao_cons (eg_f (x_lst (f := (eL true eIm)) (fun t : Unit => ([] : (List Im))) ea_nil (fun _ => rfl) (fun _ => (by decide : 0 ≤ LIM)))) (fun (r2_ : (List Im)) => (eao_cons (eg_f (x_lst (f := (eL true eIm)) (fun t : Unit => ([] : (List Im))) ea_nil (fun _ => rfl) (fun _ => (by decide : 0 ≤ LIM)))) (fun (r3_ : (List Im)) => (eao_cons (eg_f (x_lst (f := (eL true eIm)) (fun t : Unit => ([] : (List Im))) ea_nil (fun _ => rfl) (fun _ => (by decide : 0 ≤ LIM)))) (fun (r4_ : (List Im)) => eao_nil)))))) (fun _ => rfl) (fun _ => (by decide : 3 ≤ LIM))) (fun _ => rfl) (fun (u6_ : ((List (List Im)) × (List Im) × (List Im) × (List Im) × Unit)) => (b_forR (fun (s7_ : ((List OMaker) × (List (List Im)))) => [eC script, (eL false eI) mosts, (eL true (e_Maker true)) s7_.1, (eL true (eL true eIm)) s7_.2, .gone, .gone, .gone, .gone, .gone, .gone, .gone, .gone, .gone]) (makers, u6_.1) (fun (s7_ : ((List OMaker) × (List (List Im)))) (k : Int) => [eC script, (eL false eI) mosts, (eL true (e_Maker true)) s7_.1, (eL true (eL true eIm)) s7_.2, eI k, .gone, .gone, .gone, .gone, .gone, .gone, .gone, .gone]) (ei_rng1 (x_a1 o1_lenL (x_sl (x_v eC script rfl) eo_no (eo_so (x_k eI (40) rfl))))) rfl (fun _ _ => rfl) (fun (s7_ : ((List OMaker) × (List (List Im)))) (k : Int) => (b_asg (fun (cell_here : Int) => [eC script, (eL false eI) mosts, (eL true (e_Maker true)) s7_.1, (eL true (eL true eIm)) s7_.2, eI k, eI cell_here, .gone, .gone, .gone, .gone, .gone, .gone, .gone]) (eg_r (x_m2 o2_ixC (x_v eC script rfl) (x_v eI k rfl))) (fun _ => rfl) (fun (cell_here : Int) => (b_asg (fun (at_ : Int) => [eC script, (eL false eI) mosts, (eL true (e_Maker true)) s7_.1, (eL true (eL true eIm)) s7_.2, eI k, eI cell_here, eI at_, .gone, .gone, .gone, .gone, .gone, .gone]) (eg_f (x_modP 3 (by decide) (x_call T_lw_mix (ea_cons (x_v eI cell_here rfl) (ea_cons (x_k eI (5) rfl) ea_nil))) (x_k eI (3) rfl))) (fun _ => rfl) (fun (at_ : Int) => (b_asg (fun (ahead : Int) => [eC script, (eL false eI) mosts, (eL true (e_Maker true)) s7_.1, (eL true (eL true eIm)) s7_.2, eI k, eI cell_here, eI at_, eI ahead, .gone, .gone, .gone, .gone, .gone]) (eg_f (x_a1 o1_lenL (x_pr (f := (eL true (e2 (eL true eLt) eS))) 0 (fun t : ((List Pt) × Ls) => t.1) (fun _ => rfl) (x_callF T_lw_parts (ea_consW (x_m2 o2_ixL (x_v (eL true (eL true eIm)) s7_.2 rfl) (x_v eI at_ rfl)) (ea_cons (x_m2 o2_ixL (x_v (eL false eI) mosts rfl) (x_v eI at_ rfl)) ea_nil)))))) (fun _ => rfl) (fun (ahead : Int) => (b_asg (fun (kind : Ts) => [eC script, (eL false eI) mosts, (eL true (e_Maker true)) s7_.1, (eL true (eL true eIm)) s7_.2, eI k, eI cell_here, eI at_, eI ahead, eS kind, .gone, .gone, .gone, .gone]) (eg_r (x_m2 o2_ixL (x_lst (f := (eL true eS)) (fun t : Ts × Ts × Ts × Ts × Ts × Ts × Unit => ([t.1, t.2.1, t.2.2.1, t.2.2.2.1, t.2.2.2.2.1, t.2.2.2.2.2.1] : (List Ts))) (ea_cons (x_k eS ['s', 'i', 'g', 'n'] rfl) (ea_cons (x_k eS ['s', 'i', 'g', 'n'] rfl) (ea_cons (x_k eS ['i', 'n', 'k'] rfl) (ea_cons (x_k eS ['e', 'n', 'd'] rfl) (ea_cons (x_k eS ['a', 'n', 'e', 'w'] rfl) (ea_cons (x_k eS ['s', 'i', 'g', 'n'] rfl) ea_nil)))))) (fun _ => rfl) (fun _ => (by decide : 6 ≤ LIM))) (x_modP 6 (by decide) (x_call T_lw_mix (ea_cons (x_v eI cell_here rfl) (ea_cons (x_k eI (6) rfl) ea_nil))) (x_k eI (6) rfl)))) (fun _ => rfl) (fun (kind : Ts) => (b_asg (fun (value : Ts) => [eC script, (eL false eI) mosts, (eL true (e_Maker true)) s7_.1, (eL true (eL true eIm)) s7_.2, eI k, eI cell_here, eI at_, eI ahead, eS kind, eS value, .gone, .gone, .gone]) (eg_r (x_m2 o2_ixL (x_lst (f := (eL true eS)) (fun t : Ts × Ts × Unit => ([t.1, t.2.1] : (List Ts))) (ea_cons (x_k eS ([] : Ts) rfl) (ea_cons (x_m2 o2_ixS (x_k eS ['a', 'b', 'c'] rfl) (x_modP 3 (by decide) (x_call T_lw_mix (ea_cons (x_v eI cell_here rfl) (ea_cons (x_k eI (7) rfl) ea_nil))) (x_k eI (3) rfl))) ea_nil)) (fun _ => rfl) (fun _ => (by decide : 2 ≤ LIM))) (x_a1 o1_intB (x_orT (x_m2 (o2_eq (e' := eS) (by decide)) (x_v eS kind rfl) (x_k eS ['s', 'i', 'g', 'n'] rfl)) (x_m2 (o2_eq (e' := eS) (by decide)) (x_v eS kind rfl) (x_k eS ['i', 'n', 'k'] rfl)))))) (fun _ => rfl) (fun (value : Ts) => (b_expr (eg_ix (a := (eL true eIm)) (xs := s7_.2) (envs := fun y21_ => [eC script, (eL false eI) mosts, (eL true (e_Maker true)) s7_.1, (eL true (eL true eIm)) y21_, eI k, eI cell_here, eI at_, eI ahead, eS kind, eS value, .gone, .gone, .gone]) rfl (fun _ => rfl) (x_v eI at_ rfl) (fun (i19_ : Int) (x20_ : (List Im)) hx_ hg_ hp_ => (eg_app (a := eIm) (xs := x20_) (env := fun r_ => [eC script, (eL false eI) mosts, (eL true (e_Maker true)) s7_.1, (eL true (eL true eIm)) (setI s7_.2 i19_ r_), eI k, eI cell_here, eI at_, eI ahead, eS kind, eS value, .gone, .gone, .gone]) hg_ (x_tup (f := eIm) (fun t : Int × Ts × Ts × Unit => (t.1, t.2.1, t.2.2.1)) (ea_cons (x_v eI k rfl) (ea_cons (x_v eS kind rfl) (ea_cons (x_v eS value rfl) ea_nil))) (fun _ => rfl) (fun _ => (by decide : 3 ≤ LIM))) (fun _ => hp_ _)))) (fun (u23_ : (Int × (List Im))) => (b_asg (fun (u26_ : ((List Pt) × Ls)) => [eC script, (eL false eI) mosts, (eL true (e_Maker true)) s7_.1, (eL true (eL true eIm)) (setI s7_.2 u23_.1 u23_.2), eI k, eI cell_here, eI at_, eI ahead, eS kind, eS value, ePs u26_.1, eLs u26_.2, .gone]) (eg_f (x_cold (x_callF T_lw_parts (ea_consW (x_m2 o2_ixL (x_v (eL true (eL true eIm)) (setI s7_.2 u23_.1 u23_.2) rfl) (x_v eI at_ rfl)) (ea_cons (x_m2 o2_ixL (x_v (eL false eI) mosts rfl) (x_v eI at_ rfl)) ea_nil))))) (fun _ => rfl) (fun (u26_ : ((List Pt) × Ls)) => (b_ifGT (etg_not (env := fun (s27_ : (List OMaker)) => [eC script, (eL false eI) mosts, (eL true (e_Maker true)) s27_, (eL true (eL true eIm)) (setI s7_.2 u23_.1 u23_.2), eI k, eI cell_here, eI at_, eI ahead, eS kind, eS value, ePs u26_.1, eLs u26_.2, .gone]) (etg_tru (env := fun (s28_ : (List OMaker)) => [eC script, (eL false eI) mosts, (eL true (e_Maker true)) s28_, (eL true (eL true eIm)) (setI s7_.2 u23_.1 u23_.2), eI k, eI cell_here, eI at_, eI ahead, eS kind, eS value, ePs u26_.1, eLs u26_.2, .gone]) (eg_st (fun (r41_ : (Bool × (Int × ((List Pt) × OMaker)) × (List Pt) × Unit)) => r41_.1) (fun (r41_ : (Bool × (Int × ((List Pt) × OMaker)) × (List Pt) × Unit)) => (setI s7_.1 r41_.2.1.1 r41_.2.1.2.2)) (fun (s40_ : (List OMaker)) => [eC script, (eL false eI) mosts, (eL true (e_Maker true)) s40_, (eL true (eL true eIm)) (setI s7_.2 u23_.1 u23_.2), eI k, eI cell_here, eI at_, eI ahead, eS kind, eS value, ePs u26_.1, eLs u26_.2, .gone]) (eg_callG T_lw_parts_right (fun (t39_ : (Int × ((List Pt) × OMaker)) × (List Pt) × Unit) => (t39_.1.2.1, t39_.2.1, ())) (eag_cons (eg_ix (a := (e_Maker true)) (xs := s7_.1) (envs := fun y34_ => [eC script, (eL false eI) mosts, (eL true (e_Maker true)) y34_, (eL true (eL true eIm)) (setI s7_.2 u23_.1 u23_.2), eI k, eI cell_here, eI at_, eI ahead, eS kind, eS value, ePs u26_.1, eLs u26_.2, .gone]) rfl (fun _ => rfl) (x_v eI at_ rfl) (fun (i30_ : Int) (x31_ : OMaker) hx_ hg_ hp_ => (eg_meth (x := x31_) (env := fun r33_ => [eC script, (eL false eI) mosts, (eL true (e_Maker true)) (setI s7_.1 i30_ r33_.2), (eL true (eL true eIm)) (setI s7_.2 u23_.1 u23_.2), eI k, eI cell_here, eI at_, eI ahead, eS kind, eS value, ePs u26_.1, eLs u26_.2, .gone]) (T_Maker_put) hg_ rfl (ea_cons (x_m2 o2_ixL (x_m2 o2_ixL (x_v (eL true (eL true eIm)) (setI s7_.2 u23_.1 u23_.2) rfl) (x_v eI at_ rfl)) (x_m1 o1_neg (x_k eI (1) rfl))) ea_nil) (fun _ => hp_ _)))) (fun (r36_ : (Int × ((List Pt) × OMaker))) => Fz.fz (e := ePs) r36_.2.1) (fun (r36_ : (Int × ((List Pt) × OMaker))) => (eag_cons (eg_f (x_cold (x_sl (x_v ePs u26_.1 rfl) (eo_so (x_v eI ahead rfl)) eo_no))) (fun (r37_ : (List Pt)) => Fz.fz (e := ePs) r37_) (fun (r37_ : (List Pt)) => eag_nil)))) (fun _ => rfl)) (fun _ => rfl) (fun _ => rfl)))) (fun (s43_ : (List OMaker)) => (b_ret (k := fun (u45_ : Bool) => (.rt u45_ : (St ((List OMaker) × (List (List Im))) Bool))) (eg_f (x_k eB false rfl)) (fun u45_ => ⟨rfl, ⟨rfl, ⟨.inl rfl, rfl⟩⟩⟩))) (fun (s43_ : (List OMaker)) => (b_nil (t := (.nx (s43_, (setI s7_.2 u23_.1 u23_.2)) : (St ((List OMaker) × (List (List Im))) Bool))) ⟨rfl, rfl⟩)))))))))))))))))) (fun (s7_ : ((List OMaker) × (List (List Im)))) => (b_frz (ρ2 := [eC script, (eL false eI) mosts, (eL true (e_Maker true)) s7_.1, (eL false (eL false eIm)) s7_.2, .gone, .gone, .gone, .gone, .gone, .gone, .gone, .gone, .gone]) (e := (eL true (eL true eIm))) (x := s7_.2) rfl rfl (b_frz (ρ2 := [eC script, (eL false eI) mosts, (eL false (e_Maker false)) s7_.1, (eL false (eL false eIm)) s7_.2, .gone, .gone, .gone, .gone, .gone, .gone, .gone, .gone, .gone]) (e := (eL true (e_Maker true))) (x := s7_.1) rfl rfl (b_forR (fun (s73_ : Unit) => [eC script, (eL false eI) mosts, (eL false (e_Maker false)) s7_.1, (eL false (eL false eIm)) s7_.2, .gone, .gone, .gone, .gone, .gone, .gone, .gone, .gone, .gone]) () (fun (s73_ : Unit) (at_ : Int) => [eC script, (eL false eI) mosts, (eL false (e_Maker false)) s7_.1, (eL false (eL false eIm)) s7_.2, .gone, .gone, eI at_, .gone, .gone, .gone, .gone, .gone, .gone]) (ei_rng1 (x_k eI (3) rfl)) rfl (fun _ _ => rfl) (fun (s73_ : Unit) (at_ : Int) => (b_ifT (et_not (et_tru (x_callF T_lw_letters_right (ea_cons (x_cold (x_look (fun x => rfl) T_Maker_open_letters (x_m2 o2_ixL (x_v (eL false (e_Maker false)) s7_.1 rfl) (x_v eI at_ rfl)) ea_nil)) (ea_consW (x_pr (f := (eL true eLt)) 1 (fun t : ((List Pt) × Ls) => t.2) (fun _ => rfl) (x_call T_lw_parts (ea_cons (x_m2 o2_ixL (x_v (eL false (eL false eIm)) s7_.2 rfl) (x_v eI at_ rfl)) (ea_cons (x_m2 o2_ixL (x_v (eL false eI) mosts rfl) (x_v eI at_ rfl)) ea_nil)))) ea_nil))))) (b_ret (k := fun (u85_ : Bool) => (.rt u85_ : (St Unit Bool))) (eg_f (x_k eB false rfl)) (fun u85_ => ⟨rfl, ⟨rfl, ⟨.inl rfl, rfl⟩⟩⟩)) (b_nil (t := (.nx () : (St Unit Bool))) ⟨rfl, rfl⟩))) (fun (s73_ : Unit) => (b_ret (k := fun (u87_ : Bool) => u87_) (eg_f (x_k eB true rfl)) (fun u87_ => ⟨.inl rfl, rfl⟩))))))))))))
  refine run_T (n := 13) (kp := [true, true]) (m := m_lw_by_turns) (ds := [eC script, (eL false eI) mosts]) rfl hb ?_
  first
    | (simp -implicitDefEqProofs only [t_lw_by_turns, Option.bind_assoc, Option.bind_some, bind_same] at h ⊢; exact h)
    | (simp -implicitDefEqProofs only [t_lw_by_turns, Option.bind_assoc, Option.bind_some, bind_same] at h; exact h)
    | exact h
    | (simp [t_lw_by_turns] at h ⊢; exact h)
theorem T_lw_by_turns : Tf (τ := (List Int) × (List Int) × Unit) (fun t => [eC t.1, (eL false eI) t.2.1]) eB F_lw_by_turns (fun t => t_lw_by_turns t.1 t.2.1) := fun t r h => ⟨_, L_lw_by_turns t.1 t.2.1 h⟩
theorem L_law  (script : (List Int)) {r : Bool} (h : t_law script = some r) : F_law [eC script] = some (eB r, (fun _ => [eC script]) r) := by
  have hb : Bk (Qf eB [true] (fun _ => [eC script])) m_law [eC script, .gone, .gone, .gone, .gone, .gone, .gone] _ := (b_asg (fun (cell_here : Int) => [eC script, eI cell_here, .gone, .gone, .gone, .gone, .gone]) (eg_f (x_call T_lw_cell (ea_cons (x_v eC script rfl) (ea_cons (x_k eI (0) rfl) ea_nil)))) (fun _ => rfl) (fun (cell_here : Int) => (b_asg (fun (bad : An) => [eC script, eI cell_here, eA bad, .gone, .gone, .gone, .gone]) (eg_f (x_call T_lw_bad_most (ea_cons (x_v eI cell_here rfl) ea_nil))) (fun _ => rfl) (fun (bad : An) => (b_asg (fun (text : Ts) => [eC script, eI cell_here, eA bad, eS text, .gone, .gone, .gone]) (eg_f (x_sl (x_k eS ['w', 'e', 'a', 'v', 'e'] rfl) eo_no (eo_so (x_modP 6 (by decide) (x_call T_lw_mix (ea_cons (x_v eI cell_here rfl) (ea_cons (x_k eI (3) rfl) ea_nil))) (x_k eI (6) rfl))))) (fun _ => rfl) (fun (text : Ts) => (b_asg (fun (spoilt : Ts) => [eC script, eI cell_here, eA bad, eS text, eS spoilt, .gone, .gone]) (eg_f (x_m2 o2_catS (x_v eS text rfl) (x_k eS ['~', '~'] rfl))) (fun _ => rfl) (fun (spoilt : Ts) => (b_asg (fun (good : Int) => [eC script, eI cell_here, eA bad, eS text, eS spoilt, eI good, .gone]) (eg_r (x_m2 o2_ixL (x_lst (f := (eL true eI)) (fun t : Int × Int × Int × Unit => ([t.1, t.2.1, t.2.2.1] : (List Int))) (ea_cons (x_k eI (1) rfl) (ea_cons (x_k eI (200) rfl) (ea_cons (x_k eI (7) rfl) ea_nil))) (fun _ => rfl) (fun _ => (by decide : 3 ≤ LIM))) (x_modP 3 (by decide) (x_call T_lw_mix (ea_cons (x_v eI cell_here rfl) (ea_cons (x_k eI (4) rfl) ea_nil))) (x_k eI (3) rfl)))) (fun _ => rfl) (fun (good : Int) => (b_asg (fun (words : (List (Ts × An))) => [eC script, eI cell_here, eA bad, eS text, eS spoilt, eI good, (eL false (e2 eS eA)) words]) (eg_f (x_cold (x_lst (f := (eL true (e2 eS eA))) (fun t : (Ts × An) × (Ts × An) × (Ts × An) × (Ts × An) × Unit => ([t.1, t.2.1, t.2.2.1, t.2.2.2.1] : (List (Ts × An)))) (ea_cons (x_call T_lw_made (ea_cons (x_v eA bad rfl) ea_nil)) (ea_cons (x_call T_lw_asked (ea_cons (x_map (e := eS) (f := eA) (an eS) (fun _ => rfl) (x_v eS text rfl)) (ea_cons (x_v eA bad rfl) ea_nil))) (ea_cons (x_call T_lw_asked (ea_cons (x_map (e := eS) (f := eA) (an eS) (fun _ => rfl) (x_v eS spoilt rfl)) (ea_cons (x_v eA bad rfl) ea_nil))) (ea_cons (x_call T_lw_asked (ea_cons (x_map (e := eU) (f := eA) (an eU) (fun _ => rfl) (x_k eU () rfl)) (ea_cons (x_v eA bad rfl) ea_nil))) ea_nil)))) (fun _ => rfl) (fun _ => (by decide : 4 ≤ LIM))))) (fun _ => rfl) (fun (words : (List (Ts × An))) => (b_ifT (et_b (x_m2 (o2_neG (e := (eL false (e2 eS eA))) (e' := (eL true (e2 eS eA)))) (x_v (eL false (e2 eS eA)) words rfl) (x_map (e := (eL true (e2 eS eI))) (f := (eL true (e2 eS eA))) (List.map (fun t : (Ts × Int) => (t.1, (an eI) t.2))) (eL_map _ (fun _ => rfl)) (x_m2 o2_repL (x_lst (f := (eL true (e2 eS eI))) (fun t : (Ts × Int) × Unit => ([t.1] : (List (Ts × Int)))) (ea_cons (x_tup (f := (e2 eS eI)) (fun t : Ts × Int × Unit => (t.1, t.2.1)) (ea_cons (x_k eS ['s', 'i', 'z', 'e'] rfl) (ea_cons (x_k eI (0) rfl) ea_nil)) (fun _ => rfl) (fun _ => (by decide : 2 ≤ LIM))) ea_nil) (fun _ => rfl) (fun _ => (by decide : 1 ≤ LIM))) (x_k eI (4) rfl))))) (b_ret (k := fun (u12_ : Bool) => u12_) (eg_f (x_k eB false rfl)) (fun u12_ => ⟨rfl, ⟨.inl rfl, rfl⟩⟩)) (b_ifT (et_or (et_b (x_m2 (o2_neG (e := (e2 eS eA)) (e' := (e2 eS eA))) (x_callV T_lw_asked (ea_cons (x_map (e := eS) (f := eA) (an eS) (fun _ => rfl) (x_v eS spoilt rfl)) (ea_cons (x_map (e := eI) (f := eA) (an eI) (fun _ => rfl) (x_v eI good rfl)) ea_nil))) (x_tup (f := (e2 eS eA)) (fun t : Ts × An × Unit => (t.1, t.2.1)) (ea_cons (x_k eS ['s', 'i', 'g', 'n'] rfl) (ea_cons (x_map (e := eI) (f := eA) (an eI) (fun _ => rfl) (x_a1 o1_lenS (x_v eS text rfl))) ea_nil)) (fun _ => rfl) (fun _ => (by decide : 2 ≤ LIM))))) (et_b (x_m2 (o2_neG (e := (e2 eS eA)) (e' := (e2 eS eA))) (x_callV T_lw_asked (ea_cons (x_map (e := (eL false eS)) (f := eA) (an (eL false eS)) (fun _ => rfl) (x_cold (x_lst (f := (eL true eS)) (fun t : Ts × Unit => ([t.1] : (List Ts))) (ea_cons (x_v eS text rfl) ea_nil) (fun _ => rfl) (fun _ => (by decide : 1 ≤ LIM))))) (ea_cons (x_map (e := eI) (f := eA) (an eI) (fun _ => rfl) (x_v eI good rfl)) ea_nil))) (x_tup (f := (e2 eS eA)) (fun t : Ts × An × Unit => (t.1, t.2.1)) (ea_cons (x_k eS ['s', 'i', 'g', 'n'] rfl) (ea_cons (x_map (e := eI) (f := eA) (an eI) (fun _ => rfl) (x_k eI (0) rfl)) ea_nil)) (fun _ => rfl) (fun _ => (by decide : 2 ≤ LIM)))))) (b_ret (k := fun (u19_ : Bool) => u19_) (eg_f (x_k eB false rfl)) (fun u19_ => ⟨rfl, ⟨.inl rfl, rfl⟩⟩)) (b_ifT (et_or (et_b (x_m2 (o2_neG (e := (e2 eS eA)) (e' := (e2 eS eA))) (x_callV T_lw_asked (ea_cons (x_map (e := eS) (f := eA) (an eS) (fun _ => rfl) (x_v eS text rfl)) (ea_cons (x_map (e := eI) (f := eA) (an eI) (fun _ => rfl) (x_v eI good rfl)) ea_nil))) (x_tup (f := (e2 eS eA)) (fun t : Ts × An × Unit => (t.1, t.2.1)) (ea_cons (x_k eS ['t', 'o', 'l', 'd'] rfl) (ea_cons (x_map (e := eI) (f := eA) (an eI) (fun _ => rfl) (x_k eI (0) rfl)) ea_nil)) (fun _ => rfl) (fun _ => (by decide : 2 ≤ LIM))))) (et_b (x_m2 (o2_neG (e := (e2 eS eA)) (e' := (e2 eS eA))) (x_callV T_lw_made (ea_cons (x_map (e := eI) (f := eA) (an eI) (fun _ => rfl) (x_v eI good rfl)) ea_nil)) (x_tup (f := (e2 eS eA)) (fun t : Ts × An × Unit => (t.1, t.2.1)) (ea_cons (x_k eS ['t', 'o', 'l', 'd'] rfl) (ea_cons (x_map (e := eI) (f := eA) (an eI) (fun _ => rfl) (x_k eI (0) rfl)) ea_nil)) (fun _ => rfl) (fun _ => (by decide : 2 ≤ LIM)))))) (b_ret (k := fun (u23_ : Bool) => u23_) (eg_f (x_k eB false rfl)) (fun u23_ => ⟨rfl, ⟨.inl rfl, rfl⟩⟩)) (b_retI (eg_f (x_call T_lw_by_turns (ea_cons (x_v eC script rfl) (ea_cons (x_cold (x_lst (f := (eL true eI)) (fun t : Int × Int × Int × Unit => ([t.1, t.2.1, t.2.2.1] : (List Int))) (ea_cons (x_m2 o2_addI (x_k eI (1) rfl) (x_modP 3 (by decide) (x_call T_lw_mix (ea_cons (x_v eI cell_here rfl) (ea_cons (x_k eI (9) rfl) ea_nil))) (x_k eI (3) rfl))) (ea_cons (x_k eI (200) rfl) (ea_cons (x_k eI (1) rfl) ea_nil))) (fun _ => rfl) (fun _ => (by decide : 3 ≤ LIM)))) ea_nil)))) (fun u28_ => ⟨.inl rfl, rfl⟩)))))))))))))))))
  refine run_T (n := 7) (kp := [true]) (m := m_law) (ds := [eC script]) rfl hb ?_
  first
    | (simp -implicitDefEqProofs only [t_law, Option.bind_assoc, Option.bind_some, bind_same] at h ⊢; exact h)
    | (simp -implicitDefEqProofs only [t_law, Option.bind_assoc, Option.bind_some, bind_same] at h; exact h)
    | exact h
    | (simp [t_law] at h ⊢; exact h)
end LW

namespace LW
open PySem L2 LI OW
theorem isiA_I (ty : String) (s : Int) : isiA ty (an eI s) = kitB "int" ty := rfl
theorem isiA_B (ty : String) (s : Bool) : isiA ty (an eB s) = kitB "bool" ty := rfl
theorem isiA_S (ty : String) (s : Ts) : isiA ty (an eS s) = kitB "str" ty := rfl
theorem dS_an (w : Ts) : dS (an eS w).d = some w := Dc.od (e := eS) w
theorem dI_an (n : Int) : dI (an eI n).d = some n := Dc.od (e := eI) n
theorem whole_I (n : Int) : t_lw_whole__X1 (an eI n) = some true := by
  unfold t_lw_whole__X1
  rw [isiA_I, isiA_I, kit_int_bool, kit_int_int]
  rfl
def nsg (p : Int) : Exn := (1, [("at", an eI p)])
def nsz : Exn := (6, [])
theorem chk_loop {g : Unit → Int × Ts → Option (St Unit (Exn ⊕ Unit))} (h1 : ∀ k c, okC c = true → g () (k, [c]) = some (.nx ())) (h2 : ∀ k, g () (k, ['~']) = some (.rt (.inl (nsg k)))) (suf : Ts) :
    ∀ (pre : Ts) (k : Nat), (∀ c ∈ pre, okC c = true) → forT g (enumT k (chars (pre ++ '~' :: suf))) () = some (.inr (.inl (nsg ((k + pre.length : Nat) : Int))))
  | [], k, _ => by
    show forT g (((k : Int), ['~']) :: _) () = _
    rw [forT_cons, h2]
    rfl
  | c :: pre, k, h => by
    show forT g (((k : Int), [c]) :: enumT (k + 1) (chars (pre ++ '~' :: suf))) () = _
    rw [forT_cons, h1 _ _ (h c List.mem_cons_self), Option.bind_some]
    dsimp only
    rw [chk_loop h1 h2 suf pre (k + 1) fun x hx => h x (List.mem_cons_of_mem _ hx)]
    congr 5
    rw [List.length_cons]; omega
theorem okC_in {c : Char} (h : okC c = true) : isSg c = true ∨ c ∈ (['\n', '\t'] : Ts) := by
  unfold okC at h
  simp only [Bool.or_eq_true, decide_eq_true_eq] at h
  rcases h with (h | h) | h
  · exact .inl h
  · exact .inr (by rw [h]; decide)
  · exact .inr (by rw [h]; decide)
theorem chk_step {c : Char} (h : okC c = true) (k : Int) : (((t_is_sign [c]).bind fun v8_ => some (!v8_)).bind fun v9_ => (if v9_ = true then ((inS [c] ['\n', '\t']).bind fun k => some (!k)) else some false)).bind (fun v10_ => if v10_ = true then
  (some k).bind fun x11_ => some (.rt (.inl (1, [("at", an eI x11_)]) : (Exn ⊕ Unit)) : (St Unit (Exn ⊕ Unit)))
  else
  some (.nx () : (St Unit (Exn ⊕ Unit)))) = some (.nx ()) := by
  rw [is_sign_1, Option.bind_some, Option.bind_some]
  rcases okC_in h with q | q
  · rw [q]; rfl
  · rw [inS_1, Option.bind_some, decide_eq_true q]
    cases isSg c <;> rfl
theorem checked_bad {pre suf : Ts} (h : ∀ c ∈ pre, okC c = true) : t_checked__X1 (an eS (pre ++ '~' :: suf)) = some (.inl (nsg (pre.length : Int))) := by
  unfold t_checked__X1
  rw [isiA_S, kit_str_str]
  rw [Option.bind_some, Option.bind_some, if_neg (by decide), dS_an, Option.bind_some, Option.bind_some]
  rw [chk_loop (fun k c hc => chk_step hc k) (fun k => ?_) suf pre 0 h]
  · simp
  · rfl
theorem enum_ok {g : Unit → Int × Ts → Option (St Unit (Exn ⊕ Unit))} (h1 : ∀ k c, okC c = true → g () (k, [c]) = some (.nx ())) : ∀ (pre : Ts) (k : Nat), (∀ c ∈ pre, okC c = true) → forT g (enumT k (chars pre)) () = some (.inl ())
  | [], k, _ => rfl
  | c :: pre, k, h => by
    show forT g (((k : Int), [c]) :: enumT (k + 1) (chars pre)) () = _
    rw [forT_cons, h1 _ _ (h c List.mem_cons_self), Option.bind_some]
    exact enum_ok h1 pre (k + 1) fun x hx => h x (List.mem_cons_of_mem _ hx)
theorem checked_good {s : Ts} (h : ∀ c ∈ s, okC c = true) : t_checked__X1 (an eS s) = some (.inr ()) := by
  unfold t_checked__X1
  rw [isiA_S, kit_str_str]
  rw [Option.bind_some, Option.bind_some, if_neg (by decide), dS_an, Option.bind_some, Option.bind_some]
  rw [enum_ok (fun k c hc => chk_step hc k) s 0 h]
  rfl
theorem checked_no {a : An} (h : isiA "str" a = some false) : t_checked__X1 a = some (.inl (nsg 0)) := by
  unfold t_checked__X1
  rw [h]
  rfl
def badM (a : An) : Prop := t_checked_most__X1 a = some (.inl nsz)
theorem most_I {n : Int} (h : ¬ (1 ≤ n ∧ n ≤ 200)) : badM (an eI n) := by
  unfold badM t_checked_most__X1
  rw [isiA_I, isiA_I, kit_int_bool, kit_int_int]
  simp only [Option.bind_some, Bool.not_true, Bool.false_eq_true, if_false, dI_an]
  by_cases h1 : 1 ≤ n
  · have : ¬ n ≤ 200 := fun z => h ⟨h1, z⟩
    simp [h1, this, nsz]
  · simp [h1, nsz]
theorem most_ok {n : Int} (h1 : 1 ≤ n) (h2 : n ≤ 200) : t_checked_most__X1 (an eI n) = some (.inr ()) := by
  unfold t_checked_most__X1
  rw [isiA_I, isiA_I, kit_int_bool, kit_int_int]
  simp [dI_an, h1, h2]
theorem most_B (b : Bool) : badM (an eB b) := by
  unfold badM t_checked_most__X1
  rw [isiA_B, isiA_B, kit_bool_bool, kit_bool_int]
  rfl
theorem most_N {a : An} (h : isiA "int" a = some false) : badM a := by
  unfold badM t_checked_most__X1
  rw [h]
  rfl
theorem made_bad {a : An} (h : badM a) : t_Maker_init__X1 a = some (.inl nsz) := by
  unfold t_Maker_init__X1 bindX
  rw [h]
  rfl
theorem made_ok {n : Int} (h1 : 1 ≤ n) (h2 : n ≤ 200) : t_Maker_init__X1 (an eI n) = some (.inr (mkO n s00 false)) := by
  unfold t_Maker_init__X1 bindX
  rw [most_ok h1 h2]
  simp only [Option.bind_some, dI_an]
  rfl
theorem asked_sz {t a : An} (h : badM a) : t_rows_of__X1 t a = some (.inl nsz) := by
  unfold t_rows_of__X1 bindX
  rw [made_bad h]
  rfl
theorem items_bad {a : An} {p : Int} (h : t_checked__X1 a = some (.inl (nsg p))) : t_items_of__X1 a = some (.inl (nsg p)) := by
  have h1 : ∀ r, t_Reader_feed__X1 r a = some (.inl (nsg p), r) := fun r => by
    unfold t_Reader_feed__X1 bindX
    rw [h]; rfl
  unfold t_items_of__X1 t_Reader_init bindX
  dsimp only [Option.bind_some]
  rw [h1]; rfl
theorem asked_sg {a : An} {p n : Int} (h : t_checked__X1 a = some (.inl (nsg p))) (h1 : 1 ≤ n) (h2 : n ≤ 200) : t_rows_of__X1 a (an eI n) = some (.inl (nsg p)) := by
  unfold t_rows_of__X1 bindX
  rw [made_ok h1 h2]
  dsimp only [Option.bind_some]
  rw [items_bad h]
  rfl
theorem items_good {s : Ts} (hs : ∀ c ∈ s, okC c = true) (hl : s.length ≤ 400000) : t_items_of__X1 (an eS s) = some (.inr (its 0 s)) := by
  have h0 := items_of_eq hs hl
  unfold t_items_of t_Reader_init at h0
  unfold t_items_of__X1 t_Reader_init bindX
  dsimp only [Option.bind_some] at h0 ⊢
  have h1 : ∀ r, t_Reader_feed__X1 r (an eS s) = (t_Reader_feed r s).bind fun u => some (.inr u.1, u.2) := fun r => by
    unfold t_Reader_feed__X1 t_Reader_feed bindX
    rw [checked_good hs, checked_ok hs]
    simp only [Option.bind_some, dS_an, Option.bind_assoc]
  rw [h1]
  cases e : t_Reader_feed (⟨[], 0⟩ : OReader) s with
  | none => rw [e] at h0; cases h0
  | some u =>
    rw [e] at h0
    simp only [Option.bind_some] at h0 ⊢
    cases e2 : t_Reader_finish u.2 with
    | none => rw [e2] at h0; cases h0
    | some v =>
      rw [e2] at h0
      simp only [Option.bind_some] at h0 ⊢
      cases e3 : catL u.1 v.1 with
      | none => rw [e3] at h0; cases h0
      | some x => rw [e3] at h0; cases h0; rfl
theorem asked_good {s : Ts} {n : Int} (hs : ∀ c ∈ s, okC c = true) (hl : s.length ≤ 400000) (h1 : 1 ≤ n) (h2 : n ≤ 200) : ∃ r, t_rows_of__X1 (an eS s) (an eI n) = some (.inr r) := by
  have hle := its_len _ 0 s (Nat.le_refl _)
  obtain ⟨e, _⟩ := put_all h1 h2 (its 0 s) s00 false [] (its_GI _ 0 s (Nat.le_refl _) hs) (by show ((0 : Nat) : Int) ≤ n; omega) (by simp only [List.length_nil]; unfold LIM; omega)
  unfold t_rows_of__X1 bindX
  rw [made_ok h1 h2]
  dsimp only [Option.bind_some]
  rw [items_good hs hl]
  dsimp only [Option.bind_some]
  have e2 := e
  simp only [put_b_eq] at e2
  rw [e2]
  exact ⟨_, rfl⟩
def wSize : Ts × An := (['s', 'i', 'z', 'e'], an eI 0)
def wTold : Ts × An := (['t', 'o', 'l', 'd'], an eI 0)
def wSign (p : Int) : Ts × An := (['s', 'i', 'g', 'n'], an eI p)
theorem word_sz : t_lw_word nsz = some wSize := by
  have g2 : (([5, 9, 3, 2, 8, 7, 10, 4] : List Nat).any (subX nsz.1)) = false := (by decide : (([5, 9, 3, 2, 8, 7, 10, 4] : List Nat).any (subX 6)) = false)
  have g3 : subX nsz.1 6 = true := (by decide : subX 6 6 = true)
  have g4 : subX nsz.1 1 = false := (by decide : subX 6 1 = false)
  unfold t_lw_word
  simp -implicitDefEqProofs only [g2, g3, g4, Bool.and_false, Bool.not_true, Bool.or_self, Bool.false_eq_true, if_false, if_true]
  rfl
theorem word_sg (p : Int) : t_lw_word (nsg p) = some (wSign p) := by
  have g2 : (([5, 9, 3, 2, 8, 7, 10, 4] : List Nat).any (subX (nsg p).1)) = false := (by decide : (([5, 9, 3, 2, 8, 7, 10, 4] : List Nat).any (subX 1)) = false)
  have g3 : subX (nsg p).1 6 = false := (by decide : subX 1 6 = false)
  have g4 : subX (nsg p).1 1 = true := (by decide : subX 1 1 = true)
  have hf : fldT "at" (nsg p) = some (an eI p) := by simp [fldT, nsg]
  unfold t_lw_word
  simp -implicitDefEqProofs only [g2, g3, g4, hf, whole_I, Bool.false_and, Bool.not_true, Bool.or_self, Bool.false_eq_true, if_false, if_true, Option.bind_some]
  rfl
theorem ok_sz : okL xL_OutError nsz.1 (exF nsz) = true := (by decide : okL xL_OutError 6 [] = true)
theorem ok_sg (p : Int) : okL xL_OutError (nsg p).1 (exF (nsg p)) = true := (by decide : okL xL_OutError 1 ["at"] = true)
theorem a_size {t a : An} (h : badM a) : t_lw_asked t a = some wSize := by
  unfold t_lw_asked tryT
  rw [asked_sz h]
  simp -implicitDefEqProofs only [Option.bind_some, ok_sz, if_true, word_sz, seqT_inr]
theorem m_size {a : An} (h : badM a) : t_lw_made a = some wSize := by
  unfold t_lw_made tryT
  rw [made_bad h]
  simp -implicitDefEqProofs only [Option.bind_some, ok_sz, if_true, word_sz, seqT_inr]
theorem a_sign {a : An} {p n : Int} (h : t_checked__X1 a = some (.inl (nsg p))) (h1 : 1 ≤ n) (h2 : n ≤ 200) : t_lw_asked a (an eI n) = some (wSign p) := by
  unfold t_lw_asked tryT
  rw [asked_sg h h1 h2]
  simp -implicitDefEqProofs only [Option.bind_some, ok_sg, if_true, word_sg, seqT_inr]
theorem a_told {s : Ts} {n : Int} (hs : ∀ c ∈ s, okC c = true) (hl : s.length ≤ 400000) (h1 : 1 ≤ n) (h2 : n ≤ 200) : t_lw_asked (an eS s) (an eI n) = some wTold := by
  obtain ⟨r, hr⟩ := asked_good hs hl h1 h2
  unfold t_lw_asked tryT
  rw [hr]
  rfl
theorem m_told {n : Int} (h1 : 1 ≤ n) (h2 : n ≤ 200) : t_lw_made (an eI n) = some wTold := by
  unfold t_lw_made tryT
  rw [made_ok h1 h2]
  rfl
theorem eqW (p q : Ts × Int) : eqB ((e2 eS eA) (p.1, an eI p.2)) ((e2 eS eA) (q.1, an eI q.2)) = some (decide (p = q)) := eqB_pe (e1 := e2 eS eI) (e2 := e2 eS eI) (e' := e2 eS eI) (by decide) p q
theorem bad_ex (c : Int) : ∃ a, t_lw_bad_most c = some a ∧ badM a := by
  obtain ⟨v1, e1, h1, _⟩ := mix_ex c 1 (by omega) (by omega)
  obtain ⟨v0, e0, _, _⟩ := mix_ex c 0 (by omega) (by omega)
  have hf := mod_in v1 1000 (by omega)
  have hm := mod_in v0 12 (by omega)
  unfold t_lw_bad_most
  rw [e1, e0, Option.bind_some, Option.bind_some]
  have d0 : dispT ([] : List (Ts × Int)) = some [] := rfl
  rw [d0, Option.bind_some, Option.bind_some, Option.bind_some, Option.bind_some]
  refine atI_all hm.1 (by simpa using hm.2) ?_
  intro x hx
  simp only [List.mem_cons, List.not_mem_nil, or_false] at hx
  rcases hx with rfl | rfl | rfl | rfl | rfl | rfl | rfl | rfl | rfl | rfl | rfl | rfl
  · exact most_I (by omega)
  · exact most_I (by omega)
  · exact most_I (by omega)
  · exact most_I (by omega)
  · exact most_B _
  · exact most_B _
  · exact most_N (by decide +kernel)
  · exact most_N (by decide +kernel)
  · exact most_N (by decide +kernel)
  · exact most_N (by decide +kernel)
  · exact most_N (by decide +kernel)
  · exact most_I (by omega)
theorem parts_c (is : List Im) (m : Int) : t_lw_parts_c is m = t_lw_parts is m := by
  unfold t_lw_parts_c t_lw_parts
  simp only [Option.bind_some, Option.bind_assoc]
theorem mkA_snoc (m : Int) (i : Im) : ∀ (is : List Im) (s : Ms), mkA m s (is ++ [i]) = ((mkS m (mkA m s is).1 i).1, (mkA m s is).2 ++ (mkS m (mkA m s is).1 i).2)
  | [], s => by simp [mkA]
  | j :: is, s => by
    rw [List.cons_append, mkA, mkA_snoc m i is, mkA]
    simp
theorem atI_end {α : Type} {xs : List α} {x : α} : atI (xs ++ [x]) (-1) = some x := by
  unfold atI ixN
  rw [if_neg (by omega), if_pos (by simp; omega), Option.bind_some, show (-1 + ((xs ++ [x]).length : Int)).toNat = xs.length by rw [List.length_append, List.length_singleton]; omega]
  simp
theorem forT_bind {σ α τ υ : Type} {g : σ → α → Option (St σ τ)} (P : List α → σ → Prop) {xs : List α} {s : σ} {K : σ ⊕ τ → Option υ} {R : Option υ} (hp : P xs s) (h : ∀ x xs s, P (x :: xs) s → ∃ s', g s x = some (.nx s') ∧ P xs s') (hk : ∀ s, P [] s → K (.inl s) = R) : (forT g xs s).bind K = R := by
  obtain ⟨s2, h1, h2⟩ := forT_nxt P h xs s hp
  rw [h1, Option.bind_some]
  exact hk s2 h2
theorem setI_nat {α : Type} {xs : List α} {k : Nat} (h : k < xs.length) (y : α) : setI xs (k : Int) y = xs.set k y := by
  unfold setI
  rw [ixN_nat h]
structure J27 (mosts : List Int) (n : Nat) (mk : List OMaker) (it : List (List Im)) : Prop where
  l1 : mk.length = 3
  l2 : it.length = 3
  l3 : mosts.length = 3
  h : ∀ j : Nat, j < 3 → ∃ is m g, it[j]? = some is ∧ mosts[j]? = some m ∧ 1 ≤ m ∧ m ≤ 200 ∧ mk[j]? = some (mkO m (mkA m s00 is).1 g) ∧ (∀ i ∈ is, GI i.2.1 i.2.2) ∧ is.length + n ≤ 40
theorem atI_get {α : Type} {xs : List α} {k : Nat} {x : α} (h : xs[k]? = some x) : atI xs (k : Int) = some x := by
  obtain ⟨h1, h2⟩ := List.getElem?_eq_some_iff.mp h
  rw [atI_nat h1, h2]
theorem turn27 {mosts : List Int} {n : Nat} {mk : List OMaker} {it : List (List Im)} (J : J27 mosts (n + 1) mk it) {a : Nat} (ha : a < 3) (i : Im) (hi : GI i.2.1 i.2.2) :
    ∃ is m P0 r0 told r1 M M', atI it a = some is ∧ atI mosts a = some m ∧ t_lw_parts_c is m = some (P0, r0) ∧ appT is i = some (is ++ [i]) ∧ atI (setI it a (is ++ [i])) a = some (is ++ [i]) ∧ t_lw_parts_c (is ++ [i]) m = some (P0 ++ told, r1) ∧
      atI mk a = some M ∧ atI (is ++ [i]) (-1) = some i ∧ t_Maker_put M i = some (told, M') ∧ cutL (P0 ++ told) (some (P0.length : Int)) none = told ∧ J27 mosts n (setI mk a M') (setI it a (is ++ [i])) := by
  obtain ⟨is, m, g, h1, h2, h3, h4, h5, h6, h7⟩ := J.h a ha
  have hai : a < it.length := by rw [J.l2]; exact ha
  have ham : a < mk.length := by rw [J.l1]; exact ha
  have hlen := (put_all h3 h4 is s00 false [] h6 (by show ((0 : Nat) : Int) ≤ m; omega) (by simp only [List.length_nil]; unfold LIM; omega)).2
  have h6' : ∀ x ∈ is ++ [i], GI x.2.1 x.2.2 := fun x hx => by
    rcases List.mem_append.mp hx with q | q
    · exact h6 x q
    · rw [List.mem_singleton.mp q]; exact hi
  have p0 := lw_parts_eq h3 h4 h6 (by omega)
  have p1 := lw_parts_eq h3 h4 h6' (by rw [List.length_append, List.length_singleton]; omega)
  rw [mkA_snoc] at p1
  have hput := put_eq (g := g) hi h4 hlen
  refine ⟨is, m, _, _, _, _, _, _, atI_get h1, atI_get h2, (parts_c _ _).trans p0, appT_ok (by unfold LIM; omega), ?_, (parts_c _ _).trans p1, atI_get h5, atI_end, hput, ?_, ?_⟩
  · rw [setI_nat hai]
    exact atI_get (by rw [List.getElem?_set_self hai])
  · rw [cut_from (by omega), Int.toNat_natCast, List.drop_left]
  · rw [setI_nat hai, setI_nat ham]
    refine ⟨by rw [List.length_set]; exact J.l1, by rw [List.length_set]; exact J.l2, J.l3, fun j hj => ?_⟩
    by_cases q : j = a
    · subst q
      refine ⟨is ++ [i], m, goS g (mkS m (mkA m s00 is).1 i).2, by rw [List.getElem?_set_self hai], h2, h3, h4, ?_, h6', by rw [List.length_append, List.length_singleton]; omega⟩
      rw [List.getElem?_set_self ham, mkA_snoc]
    · obtain ⟨is', m', g', k1, k2, k3, k4, k5, k6, k7⟩ := J.h j hj
      exact ⟨is', m', g', by rw [List.getElem?_set_ne (Ne.symm q)]; exact k1, k2, k3, k4, by rw [List.getElem?_set_ne (Ne.symm q)]; exact k5, k6, by omega⟩
theorem kv_ex (c k : Int) : ∃ kind v6 v7 x value, t_lw_mix c 6 = some v6 ∧ atI ([(['s', 'i', 'g', 'n'] : Ts), (['s', 'i', 'g', 'n'] : Ts), (['i', 'n', 'k'] : Ts), (['e', 'n', 'd'] : Ts), (['a', 'n', 'e', 'w'] : Ts), (['s', 'i', 'g', 'n'] : Ts)] : (List Ts)) (v6 % 6) = some kind ∧ t_lw_mix c 7 = some v7 ∧ ixS (['a', 'b', 'c'] : Ts) (v7 % 3) = some x ∧
    atI ([([] : Ts), x] : List Ts) (b01 ((decide (kind = (['s', 'i', 'g', 'n'] : Ts))) || (decide (kind = (['i', 'n', 'k'] : Ts))))) = some value ∧ GI kind value := by
  obtain ⟨v6, e6, _, _⟩ := mix_ex c 6 (by omega) (by omega)
  obtain ⟨v7, e7, _, _⟩ := mix_ex c 7 (by omega) (by omega)
  have h6 := mod_in v6 6 (by omega)
  have h7 := mod_in v7 3 (by omega)
  obtain ⟨x, hx, ex⟩ := ixS_mem (s := (['a', 'b', 'c'] : Ts)) (by simp [LIM]) h7.1 (by simpa using h7.2)
  obtain ⟨kind, hk, ek⟩ := atI_ok (xs := ([(['s', 'i', 'g', 'n'] : Ts), (['s', 'i', 'g', 'n'] : Ts), (['i', 'n', 'k'] : Ts), (['e', 'n', 'd'] : Ts), (['a', 'n', 'e', 'w'] : Ts), (['s', 'i', 'g', 'n'] : Ts)] : (List Ts))) h6.1 (by simpa using h6.2)
  have hs : isSg x = true := (by decide : ∀ k ∈ (['a', 'b', 'c'] : Ts), isSg k = true) x hx
  have hc : isCol x = true := (by decide : ∀ k ∈ (['a', 'b', 'c'] : Ts), isCol k = true) x hx
  simp only [List.mem_cons, List.not_mem_nil, or_false] at hk
  rcases hk with rfl | rfl | rfl | rfl | rfl | rfl
  · exact ⟨_, v6, v7, [x], [x], e6, ek, e7, ex, rfl, .sign x hs⟩
  · exact ⟨_, v6, v7, [x], [x], e6, ek, e7, ex, rfl, .sign x hs⟩
  · exact ⟨_, v6, v7, [x], [x], e6, ek, e7, ex, rfl, .ink x hc⟩
  · exact ⟨_, v6, v7, [x], [], e6, ek, e7, ex, rfl, .fin⟩
  · exact ⟨_, v6, v7, [x], [], e6, ek, e7, ex, rfl, .anew⟩
  · exact ⟨_, v6, v7, [x], [x], e6, ek, e7, ex, rfl, .sign x hs⟩
theorem by_turns_eq (ns : List Int) (hl : ns.length ≤ 63) {m : Int} (h1 : 1 ≤ m) (h2 : m ≤ 200) : t_lw_by_turns ns [m, 200, 1] = some true := by
  unfold t_lw_by_turns
  rw [compT_map (f := fun m => mkO m s00 false) (by simp [LIM]) (fun x hx => by
    simp -implicitDefEqProofs only [List.mem_cons, List.not_mem_nil, or_false] at hx
    rcases hx with rfl | rfl | rfl
    · exact init_mk h1 h2
    · exact init_mk (by omega) (by omega)
    · exact init_mk (by omega) (by omega)), Option.bind_some]
  have hc : (cutL ns none (some 40)).length ≤ 40 ∧ (cutL ns none (some 40)).length ≤ ns.length := by
    rw [show (some 40 : Option Int) = some (((40 : Nat) : Int)) from rfl, cut_to (by omega), List.length_take]; omega
  simp -implicitDefEqProofs only [Option.bind_some]
  rw [rngT_ok (by omega) (by omega), Option.bind_some, Int.toNat_natCast]
  generalize hn : (cutL ns none (some 40)).length = n at hc ⊢
  have J0 : J27 [m, 200, 1] n (List.map (fun m => mkO m s00 false) [m, 200, 1]) [[], [], []] := ⟨rfl, rfl, rfl, fun j hj => by
    match j, hj with
    | 0, _ => exact ⟨[], m, false, rfl, rfl, h1, h2, rfl, fun i hi => (by cases hi), by simpa using hc.1⟩
    | 1, _ => exact ⟨[], 200, false, rfl, rfl, by omega, by omega, rfl, fun i hi => (by cases hi), by simpa using hc.1⟩
    | 2, _ => exact ⟨[], 1, false, rfl, rfl, by omega, by omega, rfl, fun i hi => (by cases hi), by simpa using hc.1⟩⟩
  refine forT_bind (fun xs s => (∀ y ∈ xs, 0 ≤ y ∧ y < (ns.length : Int)) ∧ J27 [m, 200, 1] xs.length s.1 s.2) ⟨fun y hy => by
    obtain ⟨k, hk, rfl⟩ := List.mem_map.mp hy
    have := List.mem_range.mp hk
    omega, by rw [List.length_map, List.length_range]; exact J0⟩ ?_ ?_
  · intro k xs s ⟨hk, J⟩
    rw [List.length_cons] at J
    have hk0 := hk k List.mem_cons_self
    obtain ⟨c, _, ec⟩ := atI_ok (xs := ns) hk0.1 hk0.2
    obtain ⟨v5, e5, _, _⟩ := mix_ex c 5 (by omega) (by omega)
    have h5 := mod_in v5 3 (by omega)
    obtain ⟨a, ea⟩ : ∃ a : Nat, v5 % 3 = (a : Int) := ⟨_, (Int.toNat_of_nonneg h5.1).symm⟩
    obtain ⟨kind, v6, v7, x, value, f1, f2, f3, f4, f5, f6⟩ := kv_ex c k
    obtain ⟨is, m', P0, r0, told, r1, M, M', g1, g2, g3, g4, g5, g6, g7, g8, g9, g10, g11⟩ := turn27 J (a := a) (by omega) (k, kind, value) f6
    refine ⟨(setI s.1 a M', setI s.2 a (is ++ [(k, kind, value)])), ?_, fun y hy => hk y (List.mem_cons_of_mem _ hy), g11⟩
    rw [ec]
    simp -implicitDefEqProofs only [Option.bind_some, e5, ea, g1, g2, g3, f1, f2, f3, f4, f5, g4, g5, g6, g7, g8, g9, g10, parts_right_eq, Bool.not_true, Bool.false_eq_true, if_false]
  rintro s ⟨-, Js⟩
  rw [seqT_inl, rngT_ok (by omega) (by omega), Option.bind_some]
  rw [forT_unit, Option.bind_some, seqT_inl]
  intro y hy
  obtain ⟨k, hk, rfl⟩ := List.mem_map.mp hy
  obtain ⟨is, m', g, k1, k2, k3, k4, k5, k6, k7⟩ := Js.h k (by have := List.mem_range.mp hk; omega)
  have p0 := lw_parts_eq k3 k4 k6 (by omega)
  rw [atI_get k5, atI_get k1, atI_get k2]
  simp -implicitDefEqProofs only [Option.bind_some, parts_c, p0]
  have ho : t_Maker_open_letters (mkO m' (mkA m' s00 is).1 g) = some (mkA m' s00 is).1.1 := rfl
  simp -implicitDefEqProofs only [ho, Option.bind_some, letters_right_eq, Bool.not_true, Bool.false_eq_true, if_false]
theorem weave_ok (c : Int) : ∃ s, (((t_lw_mix c (3 : Int)).bind fun v1_ => some (v1_ % 6)).bind fun v2_ => some (some v2_)).bind (fun v3_ => (slS none v3_ (['w', 'e', 'a', 'v', 'e'] : Ts))) = some s ∧ (∀ c ∈ s, okC c = true) ∧ s.length ≤ 5 := by
  obtain ⟨v, e, _, _⟩ := mix_ex c 3 (by omega) (by omega)
  have hm := mod_in v 6 (by omega)
  rw [e, Option.bind_some, Option.bind_some, Option.bind_some, slS_ok (by simp [LIM])]
  refine ⟨_, rfl, fun c hc => ?_, ?_⟩
  · have hc2 : c ∈ (['w', 'e', 'a', 'v', 'e'] : Ts) := by
      obtain ⟨k, ek⟩ : ∃ k : Nat, v % 6 = (k : Int) := ⟨_, (Int.toNat_of_nonneg hm.1).symm⟩
      rw [ek, cut_to (by omega)] at hc
      exact List.mem_of_mem_take hc
    exact (by decide : ∀ c ∈ (['w', 'e', 'a', 'v', 'e'] : Ts), okC c = true) c hc2
  · obtain ⟨k, ek⟩ : ∃ k : Nat, v % 6 = (k : Int) := ⟨_, (Int.toNat_of_nonneg hm.1).symm⟩
    rw [ek, cut_to (by omega), List.length_take]
    simp
    omega
theorem eqLW (xs : List (Ts × Int)) : eqB ((eL false (e2 eS eA)) (xs.map fun t => (t.1, an eI t.2))) ((eL true (e2 eS eA)) (xs.map fun t => (t.1, an eI t.2))) = some true := by
  have h1 : ∀ o : Bool, (eL o (e2 eS eA)) (xs.map fun t => (t.1, an eI t.2)) = (eL o (e2 eS eI)) xs := fun o => by
    unfold eL
    rw [List.map_map]
    rfl
  rw [h1, h1, eqB_pe (e1 := eL false (e2 eS eI)) (e2 := eL true (e2 eS eI)) (e' := eL false (e2 eS eI)) (by decide) xs xs]
  simp
theorem law_t (ns : List Int) (hl : ns.length ≤ 63) (hb : ∀ z ∈ ns, Builtin.Int.intBits z ≤ 1048576) : t_law ns = some true := by
  unfold t_law
  rw [show (0 : Int) = ((0 : Nat) : Int) from rfl, show t_lw_cell ns ((0 : Nat) : Int) = some (ns.getD 0 0) from cell_eq ns 0, Option.bind_some]
  generalize ns.getD 0 0 = c
  rw [show ((0 : Nat) : Int) = 0 from rfl]
  obtain ⟨bad, e1, hbad⟩ := bad_ex c
  obtain ⟨s, ew, hs, hsl⟩ := weave_ok c
  obtain ⟨v4, e4, _, _⟩ := mix_ex c 4 (by omega) (by omega)
  obtain ⟨v9, e9, _, _⟩ := mix_ex c 9 (by omega) (by omega)
  have h4 := mod_in v4 3 (by omega)
  have h9 := mod_in v9 3 (by omega)
  rw [e1, Option.bind_some, ew, Option.bind_some, catS_ok (by simp [LIM]; omega), Option.bind_some, e4, Option.bind_some, Option.bind_some]
  obtain ⟨good, eg, g1, g2⟩ : ∃ g, atI ([(1 : Int), (200 : Int), (7 : Int)] : (List Int)) (v4 % 3) = some g ∧ 1 ≤ g ∧ g ≤ 200 := atI_all h4.1 (by simpa using h4.2) (by decide)
  rw [eg, Option.bind_some, m_size hbad, Option.bind_some, a_size hbad, Option.bind_some, a_size hbad, Option.bind_some, a_size hbad, Option.bind_some, Option.bind_some]
  have hrep : repL ([((['s', 'i', 'z', 'e'] : Ts), (0 : Int))] : (List (Ts × Int))) (4 : Int) = some (List.replicate 4 (['s', 'i', 'z', 'e'], 0)) := rfl
  rw [hrep, Option.bind_some, Option.bind_some, show ([wSize, wSize, wSize, wSize] : List (Ts × An)) = (List.replicate 4 ((['s', 'i', 'z', 'e'] : Ts), (0 : Int))).map (fun t => (t.1, an eI t.2)) from rfl, eqLW, Option.bind_some, Option.bind_some, if_neg (by decide)]
  have hsp : t_checked__X1 (an eS (s ++ ['~', '~'])) = some (.inl (nsg (s.length : Int))) := checked_bad hs
  have hno : t_checked__X1 (an (eL false eS) ([s] : List Ts)) = some (.inl (nsg 0)) := checked_no rfl
  rw [a_sign hsp g1 g2, Option.bind_some, lenS_ok (by unfold LIM; omega), Option.bind_some, Option.bind_some, Option.bind_some]
  have q1 : eqB ((e2 eS eA) (wSign (s.length : Int))) ((e2 eS eA) ((['s', 'i', 'g', 'n'] : Ts), (an eI) (s.length : Int))) = some true := (eqW (['s', 'i', 'g', 'n'], (s.length : Int)) (['s', 'i', 'g', 'n'], (s.length : Int))).trans (by rw [decide_eq_true rfl])
  have q2 : eqB ((e2 eS eA) (wSign 0)) ((e2 eS eA) ((['s', 'i', 'g', 'n'] : Ts), (an eI) 0)) = some true := (eqW (['s', 'i', 'g', 'n'], 0) (['s', 'i', 'g', 'n'], 0)).trans (by rw [decide_eq_true rfl])
  have q3 : eqB ((e2 eS eA) wTold) ((e2 eS eA) ((['t', 'o', 'l', 'd'] : Ts), (an eI) 0)) = some true := (eqW (['t', 'o', 'l', 'd'], 0) (['t', 'o', 'l', 'd'], 0)).trans (by rw [decide_eq_true rfl])
  rw [q1, Option.bind_some, Option.bind_some, if_neg (by decide), a_sign hno g1 g2, Option.bind_some, q2, Option.bind_some, Option.bind_some, if_neg (by decide)]
  rw [a_told hs (by omega) g1 g2, Option.bind_some, q3, Option.bind_some, Option.bind_some, if_neg (by decide), m_told g1 g2, Option.bind_some, q3, Option.bind_some, Option.bind_some, if_neg (by decide)]
  rw [e9, Option.bind_some, Option.bind_some, Option.bind_some, Option.bind_some]
  exact by_turns_eq ns hl (by omega) (by omega)
end LW

namespace LW
open PySem L2 PyProof.Rows LI
def topS (i : Nat) : Stmt := PySem.Challenge.pw_outweave_k27_most_refused.main.body.getD i (.Pass ⟨0, 0, 0, 0⟩)
abbrev s_is_sign : Stmt := topS 18
abbrev N_is_sign : List Str := ["thing"]
theorem sc_is_sign : FnScope N_is_sign ["thing"] (defScope s_is_sign) := ⟨rfl, rfl, rfl, by decide +kernel, rfl, by decide +kernel, by decide +kernel⟩
abbrev s_is_colour : Stmt := topS 19
abbrev N_is_colour : List Str := ["thing"]
theorem sc_is_colour : FnScope N_is_colour ["thing"] (defScope s_is_colour) := ⟨rfl, rfl, rfl, by decide +kernel, rfl, by decide +kernel, by decide +kernel⟩
abbrev s_checked__X1 : Stmt := topS 20
abbrev N_checked__X1 : List Str := ["text", "at", "sign"]
theorem sc_checked__X1 : FnScope N_checked__X1 ["text"] (defScope s_checked__X1) := ⟨rfl, rfl, rfl, by decide +kernel, rfl, by decide +kernel, by decide +kernel⟩
abbrev s_sign_item : Stmt := topS 24
abbrev N_sign_item : List Str := ["place", "sign"]
theorem sc_sign_item : FnScope N_sign_item ["place", "sign"] (defScope s_sign_item) := ⟨rfl, rfl, rfl, by decide +kernel, rfl, by decide +kernel, by decide +kernel⟩
abbrev s_begins_mark : Stmt := topS 25
abbrev N_begins_mark : List Str := ["text"]
theorem sc_begins_mark : FnScope N_begins_mark ["text"] (defScope s_begins_mark) := ⟨rfl, rfl, rfl, by decide +kernel, rfl, by decide +kernel, by decide +kernel⟩
abbrev s_mark_item : Stmt := topS 26
abbrev N_mark_item : List Str := ["place", "text"]
theorem sc_mark_item : FnScope N_mark_item ["place", "text"] (defScope s_mark_item) := ⟨rfl, rfl, rfl, by decide +kernel, rfl, by decide +kernel, by decide +kernel⟩
abbrev s_Reader_init : Stmt := L2.inClass (topS 27) 0
abbrev N_Reader_init : List Str := ["self"]
theorem sc_Reader_init : FnScope N_Reader_init ["self"] (defScope s_Reader_init) := ⟨rfl, rfl, rfl, by decide +kernel, rfl, by decide +kernel, by decide +kernel⟩
abbrev s_Reader_told : Stmt := L2.inClass (topS 27) 2
abbrev N_Reader_told : List Str := ["self", "many", "found", "sign"]
theorem sc_Reader_told : FnScope N_Reader_told ["self", "many"] (defScope s_Reader_told) := ⟨rfl, rfl, rfl, by decide +kernel, rfl, by decide +kernel, by decide +kernel⟩
abbrev s_Reader_take : Stmt := L2.inClass (topS 27) 3
abbrev N_Reader_take : List Str := ["self", "sign", "whole", "found"]
theorem sc_Reader_take : FnScope N_Reader_take ["self", "sign"] (defScope s_Reader_take) := ⟨rfl, rfl, rfl, by decide +kernel, rfl, by decide +kernel, by decide +kernel⟩
abbrev s_Reader_feed__X1 : Stmt := L2.inClass (topS 27) 4
abbrev N_Reader_feed__X1 : List Str := ["self", "piece", "found", "sign"]
theorem sc_Reader_feed__X1 : FnScope N_Reader_feed__X1 ["self", "piece"] (defScope s_Reader_feed__X1) := ⟨rfl, rfl, rfl, by decide +kernel, rfl, by decide +kernel, by decide +kernel⟩
abbrev s_Reader_finish : Stmt := L2.inClass (topS 27) 5
abbrev N_Reader_finish : List Str := ["self"]
theorem sc_Reader_finish : FnScope N_Reader_finish ["self"] (defScope s_Reader_finish) := ⟨rfl, rfl, rfl, by decide +kernel, rfl, by decide +kernel, by decide +kernel⟩
abbrev s_items_of__X1 : Stmt := topS 28
abbrev N_items_of__X1 : List Str := ["text", "reader", "found"]
theorem sc_items_of__X1 : FnScope N_items_of__X1 ["text"] (defScope s_items_of__X1) := ⟨rfl, rfl, rfl, by decide +kernel, rfl, by decide +kernel, by decide +kernel⟩
abbrev s_checked_most__X1 : Stmt := topS 33
abbrev N_checked_most__X1 : List Str := ["most"]
theorem sc_checked_most__X1 : FnScope N_checked_most__X1 ["most"] (defScope s_checked_most__X1) := ⟨rfl, rfl, rfl, by decide +kernel, rfl, by decide +kernel, by decide +kernel⟩
abbrev s_checked_most : Stmt := topS 33
abbrev N_checked_most : List Str := ["most"]
theorem sc_checked_most : FnScope N_checked_most ["most"] (defScope s_checked_most) := ⟨rfl, rfl, rfl, by decide +kernel, rfl, by decide +kernel, by decide +kernel⟩
abbrev s_Maker_init__X1 : Stmt := L2.inClass (topS 34) 0
abbrev N_Maker_init__X1 : List Str := ["self", "most"]
theorem sc_Maker_init__X1 : FnScope N_Maker_init__X1 ["self", "most"] (defScope s_Maker_init__X1) := ⟨rfl, rfl, rfl, by decide +kernel, rfl, by decide +kernel, by decide +kernel⟩
abbrev s_Maker_init : Stmt := L2.inClass (topS 34) 0
abbrev N_Maker_init : List Str := ["self", "most"]
theorem sc_Maker_init : FnScope N_Maker_init ["self", "most"] (defScope s_Maker_init) := ⟨rfl, rfl, rfl, by decide +kernel, rfl, by decide +kernel, by decide +kernel⟩
abbrev s_Maker_open_letters : Stmt := L2.inClass (topS 34) 1
abbrev N_Maker_open_letters : List Str := ["self"]
theorem sc_Maker_open_letters : FnScope N_Maker_open_letters ["self"] (defScope s_Maker_open_letters) := ⟨rfl, rfl, rfl, by decide +kernel, rfl, by decide +kernel, by decide +kernel⟩
abbrev s_Maker_make_plain : Stmt := L2.inClass (topS 34) 3
abbrev N_Maker_make_plain : List Str := ["self"]
theorem sc_Maker_make_plain : FnScope N_Maker_make_plain ["self"] (defScope s_Maker_make_plain) := ⟨rfl, rfl, rfl, by decide +kernel, rfl, by decide +kernel, by decide +kernel⟩
abbrev s_Maker_tell_part : Stmt := L2.inClass (topS 34) 4
abbrev N_Maker_tell_part : List Str := ["self", "word", "part"]
theorem sc_Maker_tell_part : FnScope N_Maker_tell_part ["self", "word"] (defScope s_Maker_tell_part) := ⟨rfl, rfl, rfl, by decide +kernel, rfl, by decide +kernel, by decide +kernel⟩
abbrev s_Maker_put_sign : Stmt := L2.inClass (topS 34) 5
abbrev N_Maker_put_sign : List Str := ["self", "sign", "place", "found"]
theorem sc_Maker_put_sign : FnScope N_Maker_put_sign ["self", "sign", "place"] (defScope s_Maker_put_sign) := ⟨rfl, rfl, rfl, by decide +kernel, rfl, by decide +kernel, by decide +kernel⟩
abbrev s_Maker_put : Stmt := L2.inClass (topS 34) 6
abbrev N_Maker_put : List Str := ["self", "item", "place", "kind", "value"]
theorem sc_Maker_put : FnScope N_Maker_put ["self", "item"] (defScope s_Maker_put) := ⟨rfl, rfl, rfl, by decide +kernel, rfl, by decide +kernel, by decide +kernel⟩
abbrev s_rows_of__X1 : Stmt := topS 35
abbrev N_rows_of__X1 : List Str := ["text", "most", "maker", "parts", "item"]
theorem sc_rows_of__X1 : FnScope N_rows_of__X1 ["text", "most"] (defScope s_rows_of__X1) := ⟨rfl, rfl, rfl, by decide +kernel, rfl, by decide +kernel, by decide +kernel⟩
abbrev s_lw_cell : Stmt := topS 37
abbrev N_lw_cell : List Str := ["_law_script", "_law_k"]
theorem sc_lw_cell : FnScope N_lw_cell ["_law_script", "_law_k"] (defScope s_lw_cell) := ⟨rfl, rfl, rfl, by decide +kernel, rfl, by decide +kernel, by decide +kernel⟩
abbrev s_lw_mix : Stmt := topS 38
abbrev N_lw_mix : List Str := ["_law_cell_here", "_law_k", "_law_rest", "_law_turn", "_law_number"]
theorem sc_lw_mix : FnScope N_lw_mix ["_law_cell_here", "_law_k"] (defScope s_lw_mix) := ⟨rfl, rfl, rfl, by decide +kernel, rfl, by decide +kernel, by decide +kernel⟩
abbrev s_lw_parts : Stmt := topS 40
abbrev N_lw_parts : List Str := ["_law_items", "_law_most", "_law_parts_here", "_law_row", "_law_stale", "_law_colours", "_law_place", "_law_kind", "_law_value"]
theorem sc_lw_parts : FnScope N_lw_parts ["_law_items", "_law_most"] (defScope s_lw_parts) := ⟨rfl, rfl, rfl, by decide +kernel, rfl, by decide +kernel, by decide +kernel⟩
abbrev s_lw_whole__X1 : Stmt := topS 41
abbrev N_lw_whole__X1 : List Str := ["_law_found"]
theorem sc_lw_whole__X1 : FnScope N_lw_whole__X1 ["_law_found"] (defScope s_lw_whole__X1) := ⟨rfl, rfl, rfl, by decide +kernel, rfl, by decide +kernel, by decide +kernel⟩
abbrev s_lw_whole : Stmt := topS 41
abbrev N_lw_whole : List Str := ["_law_found"]
theorem sc_lw_whole : FnScope N_lw_whole ["_law_found"] (defScope s_lw_whole) := ⟨rfl, rfl, rfl, by decide +kernel, rfl, by decide +kernel, by decide +kernel⟩
abbrev s_lw_letters_right : Stmt := topS 42
abbrev N_lw_letters_right : List Str := ["_law_found", "_law_due", "_law_letter", "_law_thing"]
theorem sc_lw_letters_right : FnScope N_lw_letters_right ["_law_found", "_law_due"] (defScope s_lw_letters_right) := ⟨rfl, rfl, rfl, by decide +kernel, rfl, by decide +kernel, by decide +kernel⟩
abbrev s_lw_parts_right : Stmt := topS 43
abbrev N_lw_parts_right : List Str := ["_law_found", "_law_due", "_law_part", "_law_other"]
theorem sc_lw_parts_right : FnScope N_lw_parts_right ["_law_found", "_law_due"] (defScope s_lw_parts_right) := ⟨rfl, rfl, rfl, by decide +kernel, rfl, by decide +kernel, by decide +kernel⟩
abbrev s_lw_bad_most : Stmt := topS 44
abbrev N_lw_bad_most : List Str := ["_law_cell_here", "_law_far", "_law_some"]
theorem sc_lw_bad_most : FnScope N_lw_bad_most ["_law_cell_here"] (defScope s_lw_bad_most) := ⟨rfl, rfl, rfl, by decide +kernel, rfl, by decide +kernel, by decide +kernel⟩
abbrev s_lw_word : Stmt := topS 45
abbrev N_lw_word : List Str := ["_law_e"]
theorem sc_lw_word : FnScope N_lw_word ["_law_e"] (defScope s_lw_word) := ⟨rfl, rfl, rfl, by decide +kernel, rfl, by decide +kernel, by decide +kernel⟩
abbrev s_lw_asked : Stmt := topS 46
abbrev N_lw_asked : List Str := ["_law_text", "_law_most", "_law_e"]
theorem sc_lw_asked : FnScope N_lw_asked ["_law_text", "_law_most"] (defScope s_lw_asked) := ⟨rfl, rfl, rfl, by decide +kernel, rfl, by decide +kernel, by decide +kernel⟩
abbrev s_lw_made : Stmt := topS 47
abbrev N_lw_made : List Str := ["_law_most", "_law_e"]
theorem sc_lw_made : FnScope N_lw_made ["_law_most"] (defScope s_lw_made) := ⟨rfl, rfl, rfl, by decide +kernel, rfl, by decide +kernel, by decide +kernel⟩
abbrev s_lw_by_turns : Stmt := topS 48
abbrev N_lw_by_turns : List Str := ["_law_script", "_law_mosts", "_law_makers", "_law_items", "_law_k", "_law_cell_here", "_law_at", "_law_ahead", "_law_kind", "_law_value", "_law_parts_here", "_law_row", "_law_most"]
theorem sc_lw_by_turns : FnScope N_lw_by_turns ["_law_script", "_law_mosts"] (defScope s_lw_by_turns) := ⟨rfl, rfl, rfl, by decide +kernel, rfl, by decide +kernel, by decide +kernel⟩
abbrev s_law : Stmt := topS 49
abbrev N_law : List Str := ["_law_script", "_law_cell_here", "_law_bad", "_law_text", "_law_spoilt", "_law_good", "_law_words"]
theorem sc_law : FnScope N_law ["_law_script"] (defScope s_law) := ⟨rfl, rfl, rfl, by decide +kernel, rfl, by decide +kernel, by decide +kernel⟩
abbrev s_NoSign_init : Stmt := L2.inClass (topS 3) 0
theorem sc_NoSign_init : FnScope ["self", "at"] ["self", "at"] (defScope s_NoSign_init) := ⟨rfl, rfl, rfl, by decide +kernel, rfl, by decide +kernel, by decide +kernel⟩
structure Tx (K : PySem.W.Frag) (mg : Str → Option Value) (w : World) where
  cl : Nat → Addr
  a_is_sign : Addr
  d_is_sign : FuncData
  f_is_sign : Fun K "is_sign" "is_sign" s_is_sign a_is_sign d_is_sign
  b_is_sign : Binds K d_is_sign ["thing"] []
  g_is_sign : mg "is_sign" = some (.ref a_is_sign)
  a_is_colour : Addr
  d_is_colour : FuncData
  f_is_colour : Fun K "is_colour" "is_colour" s_is_colour a_is_colour d_is_colour
  b_is_colour : Binds K d_is_colour ["thing"] []
  g_is_colour : mg "is_colour" = some (.ref a_is_colour)
  a_checked__X1 : Addr
  d_checked__X1 : FuncData
  f_checked__X1 : Fun K "checked" "checked" s_checked__X1 a_checked__X1 d_checked__X1
  b_checked__X1 : Binds K d_checked__X1 ["text"] []
  g_checked__X1 : mg "checked" = some (.ref a_checked__X1)
  a_sign_item : Addr
  d_sign_item : FuncData
  f_sign_item : Fun K "sign_item" "sign_item" s_sign_item a_sign_item d_sign_item
  b_sign_item : Binds K d_sign_item ["place", "sign"] []
  g_sign_item : mg "sign_item" = some (.ref a_sign_item)
  a_begins_mark : Addr
  d_begins_mark : FuncData
  f_begins_mark : Fun K "begins_mark" "begins_mark" s_begins_mark a_begins_mark d_begins_mark
  b_begins_mark : Binds K d_begins_mark ["text"] []
  g_begins_mark : mg "begins_mark" = some (.ref a_begins_mark)
  a_mark_item : Addr
  d_mark_item : FuncData
  f_mark_item : Fun K "mark_item" "mark_item" s_mark_item a_mark_item d_mark_item
  b_mark_item : Binds K d_mark_item ["place", "text"] []
  g_mark_item : mg "mark_item" = some (.ref a_mark_item)
  a_Reader_init : Addr
  d_Reader_init : FuncData
  f_Reader_init : Fun K "__init__" "Reader.__init__" s_Reader_init a_Reader_init d_Reader_init
  b_Reader_init : Binds K d_Reader_init ["self"] []
  a_Reader_told : Addr
  d_Reader_told : FuncData
  f_Reader_told : Fun K "told" "Reader.told" s_Reader_told a_Reader_told d_Reader_told
  b_Reader_told : Binds K d_Reader_told ["self", "many"] []
  a_Reader_take : Addr
  d_Reader_take : FuncData
  f_Reader_take : Fun K "take" "Reader.take" s_Reader_take a_Reader_take d_Reader_take
  b_Reader_take : Binds K d_Reader_take ["self", "sign"] []
  a_Reader_feed__X1 : Addr
  d_Reader_feed__X1 : FuncData
  f_Reader_feed__X1 : Fun K "feed" "Reader.feed" s_Reader_feed__X1 a_Reader_feed__X1 d_Reader_feed__X1
  b_Reader_feed__X1 : Binds K d_Reader_feed__X1 ["self", "piece"] []
  a_Reader_finish : Addr
  d_Reader_finish : FuncData
  f_Reader_finish : Fun K "finish" "Reader.finish" s_Reader_finish a_Reader_finish d_Reader_finish
  b_Reader_finish : Binds K d_Reader_finish ["self"] []
  a_items_of__X1 : Addr
  d_items_of__X1 : FuncData
  f_items_of__X1 : Fun K "items_of" "items_of" s_items_of__X1 a_items_of__X1 d_items_of__X1
  b_items_of__X1 : Binds K d_items_of__X1 ["text"] []
  g_items_of__X1 : mg "items_of" = some (.ref a_items_of__X1)
  a_checked_most__X1 : Addr
  d_checked_most__X1 : FuncData
  f_checked_most__X1 : Fun K "checked_most" "checked_most" s_checked_most__X1 a_checked_most__X1 d_checked_most__X1
  b_checked_most__X1 : Binds K d_checked_most__X1 ["most"] []
  g_checked_most__X1 : mg "checked_most" = some (.ref a_checked_most__X1)
  a_checked_most : Addr
  d_checked_most : FuncData
  f_checked_most : Fun K "checked_most" "checked_most" s_checked_most a_checked_most d_checked_most
  b_checked_most : Binds K d_checked_most ["most"] []
  g_checked_most : mg "checked_most" = some (.ref a_checked_most)
  a_Maker_init__X1 : Addr
  d_Maker_init__X1 : FuncData
  f_Maker_init__X1 : Fun K "__init__" "Maker.__init__" s_Maker_init__X1 a_Maker_init__X1 d_Maker_init__X1
  b_Maker_init__X1 : Binds K d_Maker_init__X1 ["self", "most"] []
  a_Maker_init : Addr
  d_Maker_init : FuncData
  f_Maker_init : Fun K "__init__" "Maker.__init__" s_Maker_init a_Maker_init d_Maker_init
  b_Maker_init : Binds K d_Maker_init ["self", "most"] []
  a_Maker_open_letters : Addr
  d_Maker_open_letters : FuncData
  f_Maker_open_letters : Fun K "open_letters" "Maker.open_letters" s_Maker_open_letters a_Maker_open_letters d_Maker_open_letters
  b_Maker_open_letters : Binds K d_Maker_open_letters ["self"] []
  a_Maker_make_plain : Addr
  d_Maker_make_plain : FuncData
  f_Maker_make_plain : Fun K "make_plain" "Maker.make_plain" s_Maker_make_plain a_Maker_make_plain d_Maker_make_plain
  b_Maker_make_plain : Binds K d_Maker_make_plain ["self"] []
  a_Maker_tell_part : Addr
  d_Maker_tell_part : FuncData
  f_Maker_tell_part : Fun K "tell_part" "Maker.tell_part" s_Maker_tell_part a_Maker_tell_part d_Maker_tell_part
  b_Maker_tell_part : Binds K d_Maker_tell_part ["self", "word"] []
  a_Maker_put_sign : Addr
  d_Maker_put_sign : FuncData
  f_Maker_put_sign : Fun K "put_sign" "Maker.put_sign" s_Maker_put_sign a_Maker_put_sign d_Maker_put_sign
  b_Maker_put_sign : Binds K d_Maker_put_sign ["self", "sign", "place"] []
  a_Maker_put : Addr
  d_Maker_put : FuncData
  f_Maker_put : Fun K "put" "Maker.put" s_Maker_put a_Maker_put d_Maker_put
  b_Maker_put : Binds K d_Maker_put ["self", "item"] []
  a_rows_of__X1 : Addr
  d_rows_of__X1 : FuncData
  f_rows_of__X1 : Fun K "rows_of" "rows_of" s_rows_of__X1 a_rows_of__X1 d_rows_of__X1
  b_rows_of__X1 : Binds K d_rows_of__X1 ["text", "most"] []
  g_rows_of__X1 : mg "rows_of" = some (.ref a_rows_of__X1)
  a_lw_cell : Addr
  d_lw_cell : FuncData
  f_lw_cell : Fun K "_law_cell" "_law_cell" s_lw_cell a_lw_cell d_lw_cell
  b_lw_cell : Binds K d_lw_cell ["_law_script", "_law_k"] []
  g_lw_cell : mg "_law_cell" = some (.ref a_lw_cell)
  a_lw_mix : Addr
  d_lw_mix : FuncData
  f_lw_mix : Fun K "_law_mix" "_law_mix" s_lw_mix a_lw_mix d_lw_mix
  b_lw_mix : Binds K d_lw_mix ["_law_cell_here", "_law_k"] []
  g_lw_mix : mg "_law_mix" = some (.ref a_lw_mix)
  a_lw_parts : Addr
  d_lw_parts : FuncData
  f_lw_parts : Fun K "_law_parts" "_law_parts" s_lw_parts a_lw_parts d_lw_parts
  b_lw_parts : Binds K d_lw_parts ["_law_items", "_law_most"] []
  g_lw_parts : mg "_law_parts" = some (.ref a_lw_parts)
  a_lw_whole__X1 : Addr
  d_lw_whole__X1 : FuncData
  f_lw_whole__X1 : Fun K "_law_whole" "_law_whole" s_lw_whole__X1 a_lw_whole__X1 d_lw_whole__X1
  b_lw_whole__X1 : Binds K d_lw_whole__X1 ["_law_found"] []
  g_lw_whole__X1 : mg "_law_whole" = some (.ref a_lw_whole__X1)
  a_lw_whole : Addr
  d_lw_whole : FuncData
  f_lw_whole : Fun K "_law_whole" "_law_whole" s_lw_whole a_lw_whole d_lw_whole
  b_lw_whole : Binds K d_lw_whole ["_law_found"] []
  g_lw_whole : mg "_law_whole" = some (.ref a_lw_whole)
  a_lw_letters_right : Addr
  d_lw_letters_right : FuncData
  f_lw_letters_right : Fun K "_law_letters_right" "_law_letters_right" s_lw_letters_right a_lw_letters_right d_lw_letters_right
  b_lw_letters_right : Binds K d_lw_letters_right ["_law_found", "_law_due"] []
  g_lw_letters_right : mg "_law_letters_right" = some (.ref a_lw_letters_right)
  a_lw_parts_right : Addr
  d_lw_parts_right : FuncData
  f_lw_parts_right : Fun K "_law_parts_right" "_law_parts_right" s_lw_parts_right a_lw_parts_right d_lw_parts_right
  b_lw_parts_right : Binds K d_lw_parts_right ["_law_found", "_law_due"] []
  g_lw_parts_right : mg "_law_parts_right" = some (.ref a_lw_parts_right)
  a_lw_bad_most : Addr
  d_lw_bad_most : FuncData
  f_lw_bad_most : Fun K "_law_bad_most" "_law_bad_most" s_lw_bad_most a_lw_bad_most d_lw_bad_most
  b_lw_bad_most : Binds K d_lw_bad_most ["_law_cell_here"] []
  g_lw_bad_most : mg "_law_bad_most" = some (.ref a_lw_bad_most)
  a_lw_word : Addr
  d_lw_word : FuncData
  f_lw_word : Fun K "_law_word" "_law_word" s_lw_word a_lw_word d_lw_word
  b_lw_word : Binds K d_lw_word ["_law_e"] []
  g_lw_word : mg "_law_word" = some (.ref a_lw_word)
  a_lw_asked : Addr
  d_lw_asked : FuncData
  f_lw_asked : Fun K "_law_asked" "_law_asked" s_lw_asked a_lw_asked d_lw_asked
  b_lw_asked : Binds K d_lw_asked ["_law_text", "_law_most"] []
  g_lw_asked : mg "_law_asked" = some (.ref a_lw_asked)
  a_lw_made : Addr
  d_lw_made : FuncData
  f_lw_made : Fun K "_law_made" "_law_made" s_lw_made a_lw_made d_lw_made
  b_lw_made : Binds K d_lw_made ["_law_most"] []
  g_lw_made : mg "_law_made" = some (.ref a_lw_made)
  a_lw_by_turns : Addr
  d_lw_by_turns : FuncData
  f_lw_by_turns : Fun K "_law_by_turns" "_law_by_turns" s_lw_by_turns a_lw_by_turns d_lw_by_turns
  b_lw_by_turns : Binds K d_lw_by_turns ["_law_script", "_law_mosts"] []
  g_lw_by_turns : mg "_law_by_turns" = some (.ref a_lw_by_turns)
  a_law : Addr
  d_law : FuncData
  f_law : Fun K "law" "law" s_law a_law d_law
  b_law : Binds K d_law ["_law_script"] []
  g_law : mg "law" = some (.ref a_law)
  z_ValueError : mg "ValueError" = none
  z_bool : mg "bool" = none
  z_enumerate : mg "enumerate" = none
  z_int : mg "int" = none
  z_isinstance : mg "isinstance" = none
  z_len : mg "len" = none
  z_list : mg "list" = none
  z_range : mg "range" = none
  z_str : mg "str" = none
  z_tuple : mg "tuple" = none
  z_zip : mg "zip" = none
  k_COLOURS : ∃ u, mg "COLOURS" = some u ∧ RelV (.str ⟨([97, 98, 99, 100, 101, 102, 103, 104, 46] : List Nat).toArray⟩) u
  k_CONTROLS : ∃ u, mg "CONTROLS" = some u ∧ RelV (.str ⟨([10, 9] : List Nat).toArray⟩) u
  k_ENDS : GlKd K mg w "ENDS" kv_ENDS
  k_FIRST : ∃ u, mg "FIRST" = some u ∧ RelV (.str ⟨([32] : List Nat).toArray⟩) u
  k_LAST : ∃ u, mg "LAST" = some u ∧ RelV (.str ⟨([125] : List Nat).toArray⟩) u
  k_MORE : ∃ u, mg "MORE" = some u ∧ RelV (.str ⟨([109, 111, 114, 101] : List Nat).toArray⟩) u
  k_MOST : ∃ u, mg "MOST" = some u ∧ RelV (.int 200) u
  k_PLAIN : ∃ u, mg "PLAIN" = some u ∧ RelV (.str ⟨([46] : List Nat).toArray⟩) u
  k_WHOLE : ∃ u, mg "WHOLE" = some u ∧ RelV (.str ⟨([119, 104, 111, 108, 101] : List Nat).toArray⟩) u
  cls_Reader : Cls K (cl 11)
  gc_Reader : mg "Reader" = some (.ref (cl 11))
  cls_Maker : Cls K (cl 12)
  gc_Maker : mg "Maker" = some (.ref (cl 12))
  na_Reader_kept : NoAttr K (cl 11) "kept"
  na_Reader_place : NoAttr K (cl 11) "place"
  me_Reader_told : Meth K (cl 11) "told" a_Reader_told
  me_Reader_take : Meth K (cl 11) "take" a_Reader_take
  mk_Reader : Mk K (cl 11) a_Reader_init
  me_Reader_feed__X1 : Meth K (cl 11) "feed" a_Reader_feed__X1
  me_Reader_finish : Meth K (cl 11) "finish" a_Reader_finish
  xp_NoSize : PySem.W.excIn K (cl 6) [.type "ValueError", .type "Exception", .type "BaseException", .type "object"] "ValueError.__new__" = true
  xq_NoSize : PySem.W.keepIn K (.ref (cl 6)) = true
  xb_NoSize : PySem.W.subIn K (.ref (cl 6)) (.type "BaseException") = some true
  xt_NoSize : PySem.W.typeIn K (.ref (cl 6)) = some (.type "type")
  na_Maker_most : NoAttr K (cl 12) "most"
  na_Maker_row : NoAttr K (cl 12) "row"
  na_Maker_ink : NoAttr K (cl 12) "ink"
  na_Maker_ground : NoAttr K (cl 12) "ground"
  na_Maker_stale : NoAttr K (cl 12) "stale"
  na_Maker_more : NoAttr K (cl 12) "more"
  me_Maker_tell_part : Meth K (cl 12) "tell_part" a_Maker_tell_part
  me_Maker_make_plain : Meth K (cl 12) "make_plain" a_Maker_make_plain
  me_Maker_put_sign : Meth K (cl 12) "put_sign" a_Maker_put_sign
  mk_Maker__X1 : Mk K (cl 12) a_Maker_init__X1
  me_Maker_put : Meth K (cl 12) "put" a_Maker_put
  me_Maker_open_letters : Meth K (cl 12) "open_letters" a_Maker_open_letters
  xm_OutError : ∀ n fs, (n, fs) ∈ xL_OutError → PySem.W.exmOne K (.ref (cl n)) (.ref (cl 0)) = some true
  mk_Maker : Mk K (cl 12) a_Maker_init
  a_NoSign_init : Addr
  d_NoSign_init : FuncData
  f_NoSign_init : Fun K "__init__" "NoSign.__init__" s_NoSign_init a_NoSign_init d_NoSign_init
  b_NoSign_init : Binds K d_NoSign_init ["self", "at"] []
  xo_NoSign : OexC K (cl 1)
  xic_NoSign : PySem.W.findIn K (.ref (cl 1)) "__init__" = some (some (.ref a_NoSign_init))
  xit_NoSign : PySem.W.typeIn K (.ref a_NoSign_init) = some (.type "function")
  xn_NoSign : PySem.W.findIn K (.ref (cl 1)) "at" = some none
  rd_OutError : PySem.W.readsIn K (cl 0) (.type "type") = true
  ga_OutError : PySem.W.specialIn K (.ref (cl 0)) "__getattribute__" = some (some (.builtin "type.__getattribute__"))
  bi_OutError : PySem.W.findCls K (.ref (cl 0)) (.type "type") "__init__" = some (.val (.builtin "ValueError.__init__"))
  xf_at : ∀ n fs, (n, fs) ∈ xL → PySem.W.findIn K (.ref (cl n)) "at" = some none
  gc_OutError : mg "OutError" = some (.ref (cl 0))
  gc_NoSign : mg "NoSign" = some (.ref (cl 1))
  gc_NoName : mg "NoName" = some (.ref (cl 2))
  gc_NoHand : mg "NoHand" = some (.ref (cl 3))
  gc_Twice : mg "Twice" = some (.ref (cl 4))
  gc_Closed : mg "Closed" = some (.ref (cl 5))
  gc_NoSize : mg "NoSize" = some (.ref (cl 6))
  gc_NoRoom : mg "NoRoom" = some (.ref (cl 7))
  gc_NoRoll : mg "NoRoll" = some (.ref (cl 8))
  gc_NoCell : mg "NoCell" = some (.ref (cl 9))
  gc_NoRow : mg "NoRow" = some (.ref (cl 10))
  xc : ∀ n fs, (n, fs) ∈ xL → XcC K (cl n)
  xk : ∀ n fs k, (n, fs) ∈ xL → k ∈ kL → PySem.W.kitOne K (.ref (cl n)) (.ref (cl k)) = some (subX n k)
  xv : ∀ n fs, (n, fs) ∈ xL → PySem.W.kitOne K (.ref (cl n)) (.type "ValueError") = some true
section
variable {P : Program} {w : World} {K : PySem.W.Frag} {mg : Str → Option Value} {base : Heap}
theorem ok_NoSign_init (T : Tx K mg w) : FnOk P w K mg base CX0 1 T.a_NoSign_init T.d_NoSign_init ["self", "at"] (spInit (T.cl 1) "at") := by
  refine (T.f_NoSign_init).ok sc_NoSign_init (fun vs H Q E h => by obtain ⟨a, v, rfl, _⟩ := h; rfl) (fun cdv A outer s H vs Q E hr h => ⟨tInitS K "at" "no sign of a hand", ?_, init_run T.xo_NoSign T.xn_NoSign h⟩)
  exact pss_cons (ps_expr (pe_baseinit (by rfl) T.gc_OutError T.rd_OutError T.ga_OutError T.bi_OutError (pa_cons (pe_var (i := 0) (by rfl) (Or.inl rfl)) (pa_cons pe_str pa_nil)))) (pss_one (ps_ost (pe_var (i := 0) (by rfl) (Or.inl rfl)) (pe_var (i := 1) (by rfl) (Or.inl rfl))))
theorem ok_is_sign (T : Tx K mg w) : FnOk P w K mg base CX0 1 T.a_is_sign T.d_is_sign ["thing"] (spD ⟨K, T.cl, w⟩ F_is_sign) := by
  refine ok_def (N := N_is_sign) (m := m_is_sign) (kp := [true]) T.f_is_sign sc_is_sign rfl (fun cdv A outer s H XE en ek hr => ?_)
  have hu := hr.units
  have nd := (sc_is_sign).nd
  exact (s_cons (s_ret (g_f (f_and (r_f (f_isi' (r_v 0) (pe_bltn (v := .ty "str") (u := .type "str") (by rfl) T.z_str (by decide +kernel) rfl) T.z_isinstance)) (f_and (r_f (v_cmp (op_eqD hu) op_eqqD flat_eq (v_r (r_f (f_blt cr_len op_lenD (by rfl) T.z_len (by decide +kernel) (a_cons (r_v 0) a_nil)))) (v_r (r_f f_int)) (nomark _))) (f_one (f_ch opr_le op_cmpD opr_le op_cmpD (r_f (f_glS [32] T.k_FIRST)) (r_v 0) (r_f (f_glS [125] T.k_LAST)))))))) s_nil)
theorem ok_is_colour (T : Tx K mg w) : FnOk P w K mg base CX0 1 T.a_is_colour T.d_is_colour ["thing"] (spD ⟨K, T.cl, w⟩ F_is_colour) := by
  refine ok_def (N := N_is_colour) (m := m_is_colour) (kp := [true]) T.f_is_colour sc_is_colour rfl (fun cdv A outer s H XE en ek hr => ?_)
  have hu := hr.units
  have nd := (sc_is_colour).nd
  exact (s_cons (s_ret (g_f (f_and (r_f (f_isi' (r_v 0) (pe_bltn (v := .ty "str") (u := .type "str") (by rfl) T.z_str (by decide +kernel) rfl) T.z_isinstance)) (f_and (r_f (v_cmp (op_eqD hu) op_eqqD flat_eq (v_r (r_f (f_blt cr_len op_lenD (by rfl) T.z_len (by decide +kernel) (a_cons (r_v 0) a_nil)))) (v_r (r_f f_int)) (nomark _))) (f_one (f_in hu (r_v 0) (r_f (f_glS [97, 98, 99, 100, 101, 102, 103, 104, 46] T.k_COLOURS)))))))) s_nil)
theorem ok_checked__X1 (T : Tx K mg w) : FnOk P w K mg base (L2N.CX P w) 3 T.a_checked__X1 T.d_checked__X1 ["text"] (spX ⟨K, T.cl, w⟩ F_checked__X1) := by
  refine ok_defX (N := N_checked__X1) (m := m_checked__X1) (kp := [true]) T.f_checked__X1 sc_checked__X1 rfl (fun cdv A outer s H XE en ek ex hr => ?_)
  have hu := hr.units
  have nd := (sc_checked__X1).nd
  exact (s_cons (s_if (t_not (t_val (r_f (f_isi' (r_v 0) (pe_bltn (v := .ty "str") (u := .type "str") (by rfl) T.z_str (by decide +kernel) rfl) T.z_isinstance)))) (s_cons (s_raise1 1 rfl (by rw [ex]; exact L2N.takes_of rfl rfl rfl rfl) T.xo_NoSign T.xic_NoSign T.xit_NoSign (ok_NoSign_init T) (hr.mono (by decide)) T.b_NoSign_init pass0 (by rfl) T.gc_NoSign (r_f f_int)) s_nil) s_nil)
      (s_cons (s_for [1, 2] (passes_of rfl) rfl (i_enumS (by rfl) T.z_enumerate (r_v 0)) (g_tup rfl (gs_cons (g_name 1 nd (by rfl) (by first | exact Or.inl rfl | exact Or.inr rfl) (by rw [ek]; decide)) (gs_cons (g_name 2 nd (by rfl) (by first | exact Or.inl rfl | exact Or.inr rfl) (by rw [ek]; decide)) gs_nil)) (hlen := len_cons (len_cons (fun _ _ _ h => len_nil h)))) (s_cons (s_if (t_w (w_and (t_not (t_val (r_f (f_call (ok_is_sign T) (hr.mono (by decide)) (by rfl) T.g_is_sign T.f_is_sign.kp T.b_is_sign pass0 (a_cons (r_v 2) a_nil))))) (w_and1 (t_nin hu (r_v 2) (r_f (f_glS [10, 9] T.k_CONTROLS)))))) (s_cons (s_raise1 1 rfl (by rw [ex]; exact L2N.takes_of rfl rfl rfl rfl) T.xo_NoSign T.xic_NoSign T.xit_NoSign (ok_NoSign_init T) (hr.mono (by decide)) T.b_NoSign_init pass0 (by rfl) T.gc_NoSign (r_v 1)) s_nil) s_nil)
      s_nil))
      s_nil))
theorem ok_sign_item (T : Tx K mg w) : FnOk P w K mg base CX0 1 T.a_sign_item T.d_sign_item ["place", "sign"] (spD ⟨K, T.cl, w⟩ F_sign_item) := by
  refine ok_def (N := N_sign_item) (m := m_sign_item) (kp := [true, true]) T.f_sign_item sc_sign_item rfl (fun cdv A outer s H XE en ek hr => ?_)
  have hu := hr.units
  have nd := (sc_sign_item).nd
  exact (s_cons (s_if (t_inK (r_v 1) (by rfl) T.k_ENDS) (s_cons (s_ret (g_f (f_tup (a_cons (r_v 0) (a_cons (r_f (f_ixK (r_v 1) (by rfl) T.k_ENDS)) (a_cons (r_f (f_str [])) a_nil)))))) s_nil) s_nil)
      (s_cons (s_ret (g_f (f_tup (a_cons (r_v 0) (a_cons (r_f (f_str [115, 105, 103, 110])) (a_cons (r_v 1) a_nil)))))) s_nil))
theorem ok_begins_mark (T : Tx K mg w) : FnOk P w K mg base CX0 2 T.a_begins_mark T.d_begins_mark ["text"] (spD ⟨K, T.cl, w⟩ F_begins_mark) := by
  refine ok_def (N := N_begins_mark) (m := m_begins_mark) (kp := [true]) T.f_begins_mark sc_begins_mark rfl (fun cdv A outer s H XE en ek hr => ?_)
  have hu := hr.units
  have nd := (sc_begins_mark).nd
  exact (s_cons (s_if (t_in hu (r_v 0) (r_f (f_tup (a_cons (r_f (f_str [91])) (a_cons (r_f (f_str [91, 47])) a_nil))))) (s_cons (s_ret (g_f f_bl)) s_nil) s_nil)
      (s_cons (s_if (t_w (w_and (tv_cmp (op_eqD hu) op_eqqD flat_eq (v_r (r_f (f_blt cr_len op_lenD (by rfl) T.z_len (by decide +kernel) (a_cons (r_v 0) a_nil)))) (v_r (r_f f_int)) (nomark _)) (w_and1 (tv_cmp (op_eqD hu) op_eqqD flat_eq (v_r (r_ix hu (r_v 0) (r_f f_int))) (v_r (r_f (f_str [91]))) (nomark _))))) (s_cons (s_ret (g_f (f_call (ok_is_colour T) (hr.mono (by decide)) (by rfl) T.g_is_colour T.f_is_colour.kp T.b_is_colour pass0 (a_cons (r_ix hu (r_v 0) (r_f f_int)) a_nil)))) s_nil) s_nil)
      (s_cons (s_ret (g_f (f_and (r_f (v_cmp (op_eqD hu) op_eqqD flat_eq (v_r (r_f (f_blt cr_len op_lenD (by rfl) T.z_len (by decide +kernel) (a_cons (r_v 0) a_nil)))) (v_r (r_f f_int)) (nomark _))) (f_and (r_f (v_cmp (op_eqD hu) op_eqqD flat_eq (v_r (r_f (f_sl (r_v 0) o_none (o_some (r_f f_int))))) (v_r (r_f (f_str [91, 47]))) (nomark _))) (f_one (f_call (ok_is_colour T) (hr.mono (by decide)) (by rfl) T.g_is_colour T.f_is_colour.kp T.b_is_colour pass0 (a_cons (r_ix hu (r_v 0) (r_f f_int)) a_nil))))))) s_nil)))
theorem ok_mark_item (T : Tx K mg w) : FnOk P w K mg base CX0 2 T.a_mark_item T.d_mark_item ["place", "text"] (spD ⟨K, T.cl, w⟩ F_mark_item) := by
  refine ok_def (N := N_mark_item) (m := m_mark_item) (kp := [true, true]) T.f_mark_item sc_mark_item rfl (fun cdv A outer s H XE en ek hr => ?_)
  have hu := hr.units
  have nd := (sc_mark_item).nd
  exact (s_cons (s_if (tv_cmp (op_eqD hu) op_eqqD flat_eq (v_r (r_v 1)) (v_r (r_f (f_str [91, 91]))) (nomark _)) (s_cons (s_ret (g_f (f_tup (a_cons (r_v 0) (a_cons (r_f (f_str [115, 105, 103, 110])) (a_cons (r_f (f_str [91])) a_nil)))))) s_nil) s_nil)
      (s_cons (s_if (tv_cmp (op_eqD hu) op_eqqD flat_eq (v_r (r_v 1)) (v_r (r_f (f_str [91, 93]))) (nomark _)) (s_cons (s_ret (g_f (f_tup (a_cons (r_v 0) (a_cons (r_f (f_str [112, 108, 97, 105, 110])) (a_cons (r_f (f_str [])) a_nil)))))) s_nil) s_nil)
      (s_cons (s_if (t_w (w_and (tv_cmp (op_eqD hu) op_eqqD flat_eq (v_r (r_f (f_blt cr_len op_lenD (by rfl) T.z_len (by decide +kernel) (a_cons (r_v 1) a_nil)))) (v_r (r_f f_int)) (nomark _)) (w_and (tv_cmp (op_eqD hu) op_eqqD flat_eq (v_r (r_ix hu (r_v 1) (r_f f_int))) (v_r (r_f (f_str [91]))) (nomark _)) (w_and (t_val (r_f (f_call (ok_is_colour T) (hr.mono (by decide)) (by rfl) T.g_is_colour T.f_is_colour.kp T.b_is_colour pass0 (a_cons (r_ix hu (r_v 1) (r_f f_int)) a_nil)))) (w_and1 (tv_cmp (op_eqD hu) op_eqqD flat_eq (v_r (r_ix hu (r_v 1) (r_f f_int))) (v_r (r_f (f_str [93]))) (nomark _))))))) (s_cons (s_ret (g_f (f_tup (a_cons (r_v 0) (a_cons (r_f (f_str [105, 110, 107])) (a_cons (r_ix hu (r_v 1) (r_f f_int)) a_nil)))))) s_nil) s_nil)
      (s_cons (s_if (t_w (w_and (tv_cmp (op_eqD hu) op_eqqD flat_eq (v_r (r_f (f_blt cr_len op_lenD (by rfl) T.z_len (by decide +kernel) (a_cons (r_v 1) a_nil)))) (v_r (r_f f_int)) (nomark _)) (w_and (tv_cmp (op_eqD hu) op_eqqD flat_eq (v_r (r_f (f_sl (r_v 1) o_none (o_some (r_f f_int))))) (v_r (r_f (f_str [91, 47]))) (nomark _)) (w_and (t_val (r_f (f_call (ok_is_colour T) (hr.mono (by decide)) (by rfl) T.g_is_colour T.f_is_colour.kp T.b_is_colour pass0 (a_cons (r_ix hu (r_v 1) (r_f f_int)) a_nil)))) (w_and1 (tv_cmp (op_eqD hu) op_eqqD flat_eq (v_r (r_ix hu (r_v 1) (r_f f_int))) (v_r (r_f (f_str [93]))) (nomark _))))))) (s_cons (s_ret (g_f (f_tup (a_cons (r_v 0) (a_cons (r_f (f_str [103, 114, 111, 117, 110, 100])) (a_cons (r_ix hu (r_v 1) (r_f f_int)) a_nil)))))) s_nil) s_nil)
      (s_cons (s_ret (g_f f_non)) s_nil)))))
theorem ok_Reader_init (T : Tx K mg w) : FnOk P w K mg base CX0 1 T.a_Reader_init T.d_Reader_init ["self"] (spD ⟨K, T.cl, w⟩ F_Reader_init) := by
  refine ok_def (N := N_Reader_init) (m := m_Reader_init) (kp := [true]) T.f_Reader_init sc_Reader_init rfl (fun cdv A outer s H XE en ek hr => ?_)
  have hu := hr.units
  have nd := (sc_Reader_init).nd
  exact (s_cons (s_fld 11 T.cls_Reader T.na_Reader_kept (g_f (f_str [])) (p_v 0))
      (s_cons (s_fld 11 T.cls_Reader T.na_Reader_place (g_f f_int) (p_v 0))
      s_nil))
theorem ok_Reader_told (T : Tx K mg w) : FnOk P w K mg base CX0 2 T.a_Reader_told T.d_Reader_told ["self", "many"] (spD ⟨K, T.cl, w⟩ F_Reader_told) := by
  refine ok_def (N := N_Reader_told) (m := m_Reader_told) (kp := [true, true]) T.f_Reader_told sc_Reader_told rfl (fun cdv A outer s H XE en ek hr => ?_)
  have hu := hr.units
  have nd := (sc_Reader_told).nd
  exact (s_cons (s_set 2 nd (by rfl) (by first | exact Or.inl rfl | exact Or.inr rfl) (by rw [ek]; decide) (g_f (f_lst a_nil)))
      (s_cons (s_for [3] PassesOwn.never rfl (i_seq (r_f (f_sl (r_pl (p_fld 11 T.cls_Reader T.na_Reader_kept (p_v 0))) o_none (o_some (r_v 1))))) (g_name 3 nd (by rfl) (by first | exact Or.inl rfl | exact Or.inr rfl) (by rw [ek]; decide)) (s_cons (s_expr (g_app (p_v 2) (f_call (ok_sign_item T) (hr.mono (by decide)) (by rfl) T.g_sign_item T.f_sign_item.kp T.b_sign_item pass0 (a_cons (r_pl (p_fld 11 T.cls_Reader T.na_Reader_place (p_v 0))) (a_cons (r_v 3) a_nil)))))
      (s_cons (s_fld 11 T.cls_Reader T.na_Reader_place (g_f (f_bin opr_add op_addD (r_pl (p_fld 11 T.cls_Reader T.na_Reader_place (p_v 0))) (r_f f_int))) (p_v 0))
      s_nil)))
      (s_cons (s_fld 11 T.cls_Reader T.na_Reader_kept (g_f (f_sl (r_pl (p_fld 11 T.cls_Reader T.na_Reader_kept (p_v 0))) (o_some (r_v 1)) o_none)) (p_v 0))
      (s_cons (s_ret (g_mv (p_v 2))) s_nil))))
theorem ok_Reader_take (T : Tx K mg w) : FnOk P w K mg base CX0 3 T.a_Reader_take T.d_Reader_take ["self", "sign"] (spD ⟨K, T.cl, w⟩ F_Reader_take) := by
  refine ok_def (N := N_Reader_take) (m := m_Reader_take) (kp := [true, true]) T.f_Reader_take sc_Reader_take rfl (fun cdv A outer s H XE en ek hr => ?_)
  have hu := hr.units
  have nd := (sc_Reader_take).nd
  exact (s_cons (s_set 2 nd (by rfl) (by first | exact Or.inl rfl | exact Or.inr rfl) (by rw [ek]; decide) (g_f (f_call (ok_mark_item T) (hr.mono (by decide)) (by rfl) T.g_mark_item T.f_mark_item.kp T.b_mark_item pass0 (a_cons (r_pl (p_fld 11 T.cls_Reader T.na_Reader_place (p_v 0))) (a_cons (r_f (f_bin opr_add op_addD (r_pl (p_fld 11 T.cls_Reader T.na_Reader_kept (p_v 0))) (r_v 1))) a_nil)))))
      (s_cons (s_if (t_cmp opr_nis op_nisD (r_v 2) (r_f f_non) (nomark _)) (s_cons (s_fld 11 T.cls_Reader T.na_Reader_place (g_f (f_bin opr_add op_addD (r_f (f_bin opr_add op_addD (r_pl (p_fld 11 T.cls_Reader T.na_Reader_place (p_v 0))) (r_f (f_blt cr_len op_lenD (by rfl) T.z_len (by decide +kernel) (a_cons (r_pl (p_fld 11 T.cls_Reader T.na_Reader_kept (p_v 0))) a_nil))))) (r_f f_int))) (p_v 0))
      (s_cons (s_fld 11 T.cls_Reader T.na_Reader_kept (g_f (f_str [])) (p_v 0))
      (s_cons (s_ret (g_f (f_lst (a_cons (r_v 2) a_nil)))) s_nil))) s_nil)
      (s_cons (s_if (t_val (r_f (f_call (ok_begins_mark T) (hr.mono (by decide)) (by rfl) T.g_begins_mark T.f_begins_mark.kp T.b_begins_mark pass0 (a_cons (r_f (f_bin opr_add op_addD (r_pl (p_fld 11 T.cls_Reader T.na_Reader_kept (p_v 0))) (r_v 1))) a_nil)))) (s_cons (s_fld 11 T.cls_Reader T.na_Reader_kept (g_f (f_bin opr_add op_addD (r_pl (p_fld 11 T.cls_Reader T.na_Reader_kept (p_v 0))) (r_v 1))) (p_v 0))
      (s_cons (s_ret (g_f (f_lst a_nil))) s_nil)) s_nil)
      (s_cons (s_set 3 nd (by rfl) (by first | exact Or.inl rfl | exact Or.inr rfl) (by rw [ek]; decide) (g_meth 11 (p_v 0) T.cls_Reader T.me_Reader_told (ok_Reader_told T) (hr.mono (by decide)) T.b_Reader_told pass0 (a_cons (r_f (f_blt cr_len op_lenD (by rfl) T.z_len (by decide +kernel) (a_cons (r_pl (p_fld 11 T.cls_Reader T.na_Reader_kept (p_v 0))) a_nil))) a_nil)))
      (s_cons (s_fld 11 T.cls_Reader T.na_Reader_kept (g_r (r_v 1)) (p_v 0))
      (s_cons (s_if (tv_cmp (op_neD hu) op_neqD flat_ne (v_r (r_v 1)) (v_r (r_f (f_str [91]))) (nomark _)) (s_cons (s_expr (g_ext 3 (g_meth 11 (p_v 0) T.cls_Reader T.me_Reader_told (ok_Reader_told T) (hr.mono (by decide)) T.b_Reader_told pass0 (a_cons (r_f f_int) a_nil))))
      s_nil) s_nil)
      (s_kill [] (s_cons (s_ret (g_mv (p_v 3))) s_nil))))))))
theorem ok_Reader_feed__X1 (T : Tx K mg w) : FnOk P w K mg base (L2N.CX P w) 4 T.a_Reader_feed__X1 T.d_Reader_feed__X1 ["self", "piece"] (spX ⟨K, T.cl, w⟩ F_Reader_feed__X1) := by
  refine ok_defX (N := N_Reader_feed__X1) (m := m_Reader_feed__X1) (kp := [true, true]) T.f_Reader_feed__X1 sc_Reader_feed__X1 rfl (fun cdv A outer s H XE en ek ex hr => ?_)
  have hu := hr.units
  have nd := (sc_Reader_feed__X1).nd
  exact (s_cons (s_exprX (f_callX (ok_checked__X1 T) (hr.mono (by decide)) (by rfl) T.g_checked__X1 T.f_checked__X1.kp T.b_checked__X1 (by rw [ex]; exact L2N.takes_of rfl rfl rfl rfl) (a_cons (r_v 1) a_nil)))
      (s_cons (s_set 2 nd (by rfl) (by first | exact Or.inl rfl | exact Or.inr rfl) (by rw [ek]; decide) (g_f (f_lst a_nil)))
      (s_cons (s_for [3] (passes_of rfl) rfl (i_seq (r_v 1)) (g_name 3 nd (by rfl) (by first | exact Or.inl rfl | exact Or.inr rfl) (by rw [ek]; decide)) (s_cons (s_expr (g_ext 2 (g_meth 11 (p_v 0) T.cls_Reader T.me_Reader_take (ok_Reader_take T) (hr.mono (by decide)) T.b_Reader_take pass0 (a_cons (r_v 3) a_nil))))
      s_nil))
      (s_cons (s_ret (g_mv (p_v 2))) s_nil))))
theorem ok_Reader_finish (T : Tx K mg w) : FnOk P w K mg base CX0 3 T.a_Reader_finish T.d_Reader_finish ["self"] (spD ⟨K, T.cl, w⟩ F_Reader_finish) := by
  refine ok_def (N := N_Reader_finish) (m := m_Reader_finish) (kp := [true]) T.f_Reader_finish sc_Reader_finish rfl (fun cdv A outer s H XE en ek hr => ?_)
  have hu := hr.units
  have nd := (sc_Reader_finish).nd
  exact (s_cons (s_ret (g_meth 11 (p_v 0) T.cls_Reader T.me_Reader_told (ok_Reader_told T) (hr.mono (by decide)) T.b_Reader_told pass0 (a_cons (r_f (f_blt cr_len op_lenD (by rfl) T.z_len (by decide +kernel) (a_cons (r_pl (p_fld 11 T.cls_Reader T.na_Reader_kept (p_v 0))) a_nil))) a_nil))) s_nil)
theorem ok_items_of__X1 (T : Tx K mg w) : FnOk P w K mg base (L2N.CX P w) 5 T.a_items_of__X1 T.d_items_of__X1 ["text"] (spX ⟨K, T.cl, w⟩ F_items_of__X1) := by
  refine ok_defX (N := N_items_of__X1) (m := m_items_of__X1) (kp := [true]) T.f_items_of__X1 sc_items_of__X1 rfl (fun cdv A outer s H XE en ek ex hr => ?_)
  have hu := hr.units
  have nd := (sc_items_of__X1).nd
  exact (s_cons (s_set 1 nd (by rfl) (by first | exact Or.inl rfl | exact Or.inr rfl) (by rw [ek]; decide) (g_f (f_mk0 11 T.mk_Reader (ok_Reader_init T) (hr.mono (by decide)) (by rfl) T.gc_Reader T.b_Reader_init pass0)))
      (s_cons (s_setX 2 nd (by rfl) (by first | exact Or.inl rfl | exact Or.inr rfl) (by rw [ek]; decide) (f_methX 11 (p_v 1) T.cls_Reader T.me_Reader_feed__X1 (ok_Reader_feed__X1 T) (hr.mono (by decide)) T.b_Reader_feed__X1 (by rw [ex]; exact L2N.takes_of rfl rfl rfl rfl) (a_cons (r_v 0) a_nil)))
      (s_frz 2 (s_cons (s_ret (g_cold (g_binV 2 opr_add op_addD (g_meth0 11 (p_v 1) T.cls_Reader T.me_Reader_finish (ok_Reader_finish T) (hr.mono (by decide)) T.b_Reader_finish pass0)))) s_nil))))
theorem ok_checked_most__X1 (T : Tx K mg w) : FnOk P w K mg base (L2N.CX P w) 1 T.a_checked_most__X1 T.d_checked_most__X1 ["most"] (spX ⟨K, T.cl, w⟩ F_checked_most__X1) := by
  refine ok_defX (N := N_checked_most__X1) (m := m_checked_most__X1) (kp := [true]) T.f_checked_most__X1 sc_checked_most__X1 rfl (fun cdv A outer s H XE en ek ex hr => ?_)
  have hu := hr.units
  have nd := (sc_checked_most__X1).nd
  exact (s_cons (s_if (t_w (w_or (t_not (t_val (r_f (f_isi' (r_v 0) (pe_bltn (v := .ty "int") (u := .type "int") (by rfl) T.z_int (by decide +kernel) rfl) T.z_isinstance)))) (w_or (t_val (r_f (f_isi' (r_v 0) (pe_bltn (v := .ty "bool") (u := .type "bool") (by rfl) T.z_bool (by decide +kernel) rfl) T.z_isinstance))) (w_or1 (t_not (t_ch opr_le op_cmpD opr_le op_cmpD (r_f f_int) (r_v 0) (r_f (f_glI 200 T.k_MOST)))))))) (s_cons (s_raise0 6 rfl (by rw [ex]; exact L2N.takes_of rfl rfl rfl rfl) (L2N.pmk_own PySem.F.excBase_ValueError T.xp_NoSize T.gc_NoSize T.xq_NoSize (raises_own T.xb_NoSize T.xt_NoSize) (by rfl))) s_nil) s_nil)
      s_nil)
theorem ok_checked_most (T : Tx K mg w) : FnOk P w K mg base CX0 1 T.a_checked_most T.d_checked_most ["most"] (spD ⟨K, T.cl, w⟩ F_checked_most) := by
  refine ok_def (N := N_checked_most) (m := m_checked_most) (kp := [true]) T.f_checked_most sc_checked_most rfl (fun cdv A outer s H XE en ek hr => ?_)
  have hu := hr.units
  have nd := (sc_checked_most).nd
  exact (s_cons (s_if (t_w (w_or (t_not (t_val (r_f (f_isi' (r_v 0) (pe_bltn (v := .ty "int") (u := .type "int") (by rfl) T.z_int (by decide +kernel) rfl) T.z_isinstance)))) (w_or (t_val (r_f (f_isi' (r_v 0) (pe_bltn (v := .ty "bool") (u := .type "bool") (by rfl) T.z_bool (by decide +kernel) rfl) T.z_isinstance))) (w_or1 (t_not (t_ch opr_le op_cmpD opr_le op_cmpD (r_f f_int) (r_v 0) (r_f (f_glI 200 T.k_MOST)))))))) ss_never s_nil)
      s_nil)
theorem ok_Maker_init__X1 (T : Tx K mg w) : FnOk P w K mg base (L2N.CX P w) 2 T.a_Maker_init__X1 T.d_Maker_init__X1 ["self", "most"] (spX ⟨K, T.cl, w⟩ F_Maker_init__X1) := by
  refine ok_defX (N := N_Maker_init__X1) (m := m_Maker_init__X1) (kp := [true, true]) T.f_Maker_init__X1 sc_Maker_init__X1 rfl (fun cdv A outer s H XE en ek ex hr => ?_)
  have hu := hr.units
  have nd := (sc_Maker_init__X1).nd
  exact (s_cons (s_exprX (f_callX (ok_checked_most__X1 T) (hr.mono (by decide)) (by rfl) T.g_checked_most__X1 T.f_checked_most__X1.kp T.b_checked_most__X1 (by rw [ex]; exact L2N.takes_of rfl rfl rfl rfl) (a_cons (r_v 1) a_nil)))
      (s_cons (s_fld 12 T.cls_Maker T.na_Maker_most (g_r (r_v 1)) (p_v 0))
      (s_cons (s_fld 12 T.cls_Maker T.na_Maker_row (g_f (f_lst a_nil)) (p_v 0))
      (s_cons (s_fld 12 T.cls_Maker T.na_Maker_ink (g_f (f_glS [46] T.k_PLAIN)) (p_v 0))
      (s_cons (s_fld 12 T.cls_Maker T.na_Maker_ground (g_f (f_glS [46] T.k_PLAIN)) (p_v 0))
      (s_cons (s_fld 12 T.cls_Maker T.na_Maker_stale (g_f f_bl) (p_v 0))
      (s_cons (s_fld 12 T.cls_Maker T.na_Maker_more (g_f f_bl) (p_v 0))
      s_nil)))))))
theorem ok_Maker_init (T : Tx K mg w) : FnOk P w K mg base CX0 2 T.a_Maker_init T.d_Maker_init ["self", "most"] (spD ⟨K, T.cl, w⟩ F_Maker_init) := by
  refine ok_def (N := N_Maker_init) (m := m_Maker_init) (kp := [true, true]) T.f_Maker_init sc_Maker_init rfl (fun cdv A outer s H XE en ek hr => ?_)
  have hu := hr.units
  have nd := (sc_Maker_init).nd
  exact (s_cons (s_expr (g_f (f_call (ok_checked_most T) (hr.mono (by decide)) (by rfl) T.g_checked_most T.f_checked_most.kp T.b_checked_most pass0 (a_cons (r_v 1) a_nil))))
      (s_cons (s_fld 12 T.cls_Maker T.na_Maker_most (g_r (r_v 1)) (p_v 0))
      (s_cons (s_fld 12 T.cls_Maker T.na_Maker_row (g_f (f_lst a_nil)) (p_v 0))
      (s_cons (s_fld 12 T.cls_Maker T.na_Maker_ink (g_f (f_glS [46] T.k_PLAIN)) (p_v 0))
      (s_cons (s_fld 12 T.cls_Maker T.na_Maker_ground (g_f (f_glS [46] T.k_PLAIN)) (p_v 0))
      (s_cons (s_fld 12 T.cls_Maker T.na_Maker_stale (g_f f_bl) (p_v 0))
      (s_cons (s_fld 12 T.cls_Maker T.na_Maker_more (g_f f_bl) (p_v 0))
      s_nil)))))))
theorem ok_Maker_open_letters (T : Tx K mg w) : FnOk P w K mg base CX0 1 T.a_Maker_open_letters T.d_Maker_open_letters ["self"] (spD ⟨K, T.cl, w⟩ F_Maker_open_letters) := by
  refine ok_def (N := N_Maker_open_letters) (m := m_Maker_open_letters) (kp := [true]) T.f_Maker_open_letters sc_Maker_open_letters rfl (fun cdv A outer s H XE en ek hr => ?_)
  have hu := hr.units
  have nd := (sc_Maker_open_letters).nd
  exact (s_cons (s_ret (g_f (f_bty call_list_of op_listD (by rfl) T.z_list (by decide +kernel) (a_cons (r_pl (p_fld 12 T.cls_Maker T.na_Maker_row (p_v 0))) a_nil)))) s_nil)
theorem ok_Maker_make_plain (T : Tx K mg w) : FnOk P w K mg base CX0 1 T.a_Maker_make_plain T.d_Maker_make_plain ["self"] (spD ⟨K, T.cl, w⟩ F_Maker_make_plain) := by
  refine ok_def (N := N_Maker_make_plain) (m := m_Maker_make_plain) (kp := [true]) T.f_Maker_make_plain sc_Maker_make_plain rfl (fun cdv A outer s H XE en ek hr => ?_)
  have hu := hr.units
  have nd := (sc_Maker_make_plain).nd
  exact (s_cons (s_fld 12 T.cls_Maker T.na_Maker_ink (g_f (f_glS [46] T.k_PLAIN)) (p_v 0))
      (s_cons (s_fld 12 T.cls_Maker T.na_Maker_ground (g_f (f_glS [46] T.k_PLAIN)) (p_v 0))
      s_nil))
theorem ok_Maker_tell_part (T : Tx K mg w) : FnOk P w K mg base CX0 1 T.a_Maker_tell_part T.d_Maker_tell_part ["self", "word"] (spD ⟨K, T.cl, w⟩ F_Maker_tell_part) := by
  refine ok_def (N := N_Maker_tell_part) (m := m_Maker_tell_part) (kp := [true, true]) T.f_Maker_tell_part sc_Maker_tell_part rfl (fun cdv A outer s H XE en ek hr => ?_)
  have hu := hr.units
  have nd := (sc_Maker_tell_part).nd
  exact (s_frzP (fldL 12 "row" (vL 0)) (s_cons (s_set 2 nd (by rfl) (by first | exact Or.inl rfl | exact Or.inr rfl) (by rw [ek]; decide) (g_f (f_tup (a_cons (r_pl (p_fld 12 T.cls_Maker T.na_Maker_row (p_v 0))) (a_cons (r_v 1) a_nil)))))
      (s_cons (s_fld 12 T.cls_Maker T.na_Maker_row (g_f (f_lst a_nil)) (p_v 0))
      (s_cons (s_fld 12 T.cls_Maker T.na_Maker_stale (g_f f_bl) (p_v 0))
      (s_cons (s_fld 12 T.cls_Maker T.na_Maker_more (g_f (v_cmp (op_eqD hu) op_eqqD flat_eq (v_r (r_v 1)) (v_r (r_f (f_glS [109, 111, 114, 101] T.k_MORE))) (nomark _))) (p_v 0))
      (s_cons (s_ret (g_f (f_lst (a_cons (r_v 2) a_nil)))) s_nil))))))
theorem ok_Maker_put_sign (T : Tx K mg w) : FnOk P w K mg base CX0 2 T.a_Maker_put_sign T.d_Maker_put_sign ["self", "sign", "place"] (spD ⟨K, T.cl, w⟩ F_Maker_put_sign) := by
  refine ok_def (N := N_Maker_put_sign) (m := m_Maker_put_sign) (kp := [true, true, true]) T.f_Maker_put_sign sc_Maker_put_sign rfl (fun cdv A outer s H XE en ek hr => ?_)
  have hu := hr.units
  have nd := (sc_Maker_put_sign).nd
  exact (s_cons (s_set 3 nd (by rfl) (by first | exact Or.inl rfl | exact Or.inr rfl) (by rw [ek]; decide) (g_f (f_cold (f_lst a_nil))))
      (s_cons (s_if (tv_cmp (op_eqD hu) op_eqqD flat_eq (v_r (r_f (f_blt cr_len op_lenD (by rfl) T.z_len (by decide +kernel) (a_cons (r_pl (p_fld 12 T.cls_Maker T.na_Maker_row (p_v 0))) a_nil)))) (v_r (r_pl (p_fld 12 T.cls_Maker T.na_Maker_most (p_v 0)))) (nomark _)) (s_cons (s_seqI 3 (s_set 3 nd (by rfl) (by first | exact Or.inl rfl | exact Or.inr rfl) (by rw [ek]; decide) (g_meth 12 (p_v 0) T.cls_Maker T.me_Maker_tell_part (ok_Maker_tell_part T) (hr.mono (by decide)) T.b_Maker_tell_part pass0 (a_cons (r_f (f_glS [109, 111, 114, 101] T.k_MORE)) a_nil))))
      s_nil) s_nil)
      (s_kill [] (s_cons (s_expr (g_app (p_fld 12 T.cls_Maker T.na_Maker_row (p_v 0)) (f_tup (a_cons (r_v 1) (a_cons (r_pl (p_fld 12 T.cls_Maker T.na_Maker_ink (p_v 0))) (a_cons (r_pl (p_fld 12 T.cls_Maker T.na_Maker_ground (p_v 0))) (a_cons (r_v 2) a_nil)))))))
      (s_cons (s_ret (g_r (r_v 3))) s_nil)))))
theorem ok_Maker_put (T : Tx K mg w) : FnOk P w K mg base CX0 3 T.a_Maker_put T.d_Maker_put ["self", "item"] (spD ⟨K, T.cl, w⟩ F_Maker_put) := by
  refine ok_def (N := N_Maker_put) (m := m_Maker_put) (kp := [true, true]) T.f_Maker_put sc_Maker_put rfl (fun cdv A outer s H XE en ek hr => ?_)
  have hu := hr.units
  have nd := (sc_Maker_put).nd
  exact (s_cons (s_asg (g_r (r_v 1)) (g_tup rfl (gs_cons (g_name 2 nd (by rfl) (by first | exact Or.inl rfl | exact Or.inr rfl) (by rw [ek]; decide)) (gs_cons (g_name 3 nd (by rfl) (by first | exact Or.inl rfl | exact Or.inr rfl) (by rw [ek]; decide)) (gs_cons (g_name 4 nd (by rfl) (by first | exact Or.inl rfl | exact Or.inr rfl) (by rw [ek]; decide)) gs_nil))) (hlen := len_cons (len_cons (len_cons (fun _ _ _ h => len_nil h))))))
      (s_cons (s_if (tv_cmp (op_eqD hu) op_eqqD flat_eq (v_r (r_v 3)) (v_r (r_f (f_str [101, 110, 100]))) (nomark _)) (s_cons (s_expr (g_meth0 12 (p_v 0) T.cls_Maker T.me_Maker_make_plain (ok_Maker_make_plain T) (hr.mono (by decide)) T.b_Maker_make_plain pass0))
      (s_cons (s_ret (g_cold (g_meth 12 (p_v 0) T.cls_Maker T.me_Maker_tell_part (ok_Maker_tell_part T) (hr.mono (by decide)) T.b_Maker_tell_part pass0 (a_cons (r_f (f_glS [119, 104, 111, 108, 101] T.k_WHOLE)) a_nil)))) s_nil)) s_nil)
      (s_cons (s_if (tv_cmp (op_eqD hu) op_eqqD flat_eq (v_r (r_v 3)) (v_r (r_f (f_str [97, 110, 101, 119]))) (nomark _)) (s_cons (s_expr (g_meth0 12 (p_v 0) T.cls_Maker T.me_Maker_make_plain (ok_Maker_make_plain T) (hr.mono (by decide)) T.b_Maker_make_plain pass0))
      (s_cons (s_fld 12 T.cls_Maker T.na_Maker_stale (g_f f_bl) (p_v 0))
      (s_cons (s_ret (g_f (f_cold (f_lst a_nil)))) s_nil))) s_nil)
      (s_cons (s_if (t_val (r_pl (p_fld 12 T.cls_Maker T.na_Maker_stale (p_v 0)))) (s_cons (s_fld 12 T.cls_Maker T.na_Maker_row (g_f (f_lst a_nil)) (p_v 0))
      (s_cons (s_fld 12 T.cls_Maker T.na_Maker_stale (g_f f_bl) (p_v 0))
      s_nil)) s_nil)
      (s_kill [] (s_cons (s_if (tv_cmp (op_eqD hu) op_eqqD flat_eq (v_r (r_v 3)) (v_r (r_f (f_str [115, 105, 103, 110]))) (nomark _)) (s_cons (s_ret (g_meth 12 (p_v 0) T.cls_Maker T.me_Maker_put_sign (ok_Maker_put_sign T) (hr.mono (by decide)) T.b_Maker_put_sign pass0 (a_cons (r_v 4) (a_cons (r_v 2) a_nil)))) s_nil) s_nil)
      (s_cons (s_if (tv_cmp (op_eqD hu) op_eqqD flat_eq (v_r (r_v 3)) (v_r (r_f (f_str [105, 110, 107]))) (nomark _)) (s_cons (s_fld 12 T.cls_Maker T.na_Maker_ink (g_r (r_v 4)) (p_v 0))
      s_nil) (s_cons (s_if (tv_cmp (op_eqD hu) op_eqqD flat_eq (v_r (r_v 3)) (v_r (r_f (f_str [103, 114, 111, 117, 110, 100]))) (nomark _)) (s_cons (s_fld 12 T.cls_Maker T.na_Maker_ground (g_r (r_v 4)) (p_v 0))
      s_nil) (s_cons (s_expr (g_meth0 12 (p_v 0) T.cls_Maker T.me_Maker_make_plain (ok_Maker_make_plain T) (hr.mono (by decide)) T.b_Maker_make_plain pass0))
      s_nil))
      (s_kill [] s_nil)))
      (s_kill [] (s_cons (s_ret (g_f (f_cold (f_lst a_nil)))) s_nil)))))))))
theorem ok_rows_of__X1 (T : Tx K mg w) : FnOk P w K mg base (L2N.CX P w) 6 T.a_rows_of__X1 T.d_rows_of__X1 ["text", "most"] (spX ⟨K, T.cl, w⟩ F_rows_of__X1) := by
  refine ok_defX (N := N_rows_of__X1) (m := m_rows_of__X1) (kp := [true, true]) T.f_rows_of__X1 sc_rows_of__X1 rfl (fun cdv A outer s H XE en ek ex hr => ?_)
  have hu := hr.units
  have nd := (sc_rows_of__X1).nd
  exact (s_cons (s_setX 2 nd (by rfl) (by first | exact Or.inl rfl | exact Or.inr rfl) (by rw [ek]; decide) (f_mkX 12 T.mk_Maker__X1 (ok_Maker_init__X1 T) (hr.mono (by decide)) (by rfl) T.gc_Maker T.b_Maker_init__X1 (by rw [ex]; exact L2N.takes_of rfl rfl rfl rfl) (a_cons (r_v 1) a_nil)))
      (s_cons (s_set 3 nd (by rfl) (by first | exact Or.inl rfl | exact Or.inr rfl) (by rw [ek]; decide) (g_f (f_lst a_nil)))
      (s_cons (s_forX [4] (passes_of rfl) rfl (f_callX (ok_items_of__X1 T) (hr.mono (by decide)) (by rfl) T.g_items_of__X1 T.f_items_of__X1.kp T.b_items_of__X1 (by rw [ex]; exact L2N.takes_of rfl rfl rfl rfl) (a_cons (r_v 0) a_nil)) (g_name 4 nd (by rfl) (by first | exact Or.inl rfl | exact Or.inr rfl) (by rw [ek]; decide)) (s_cons (s_expr (g_ext 3 (g_meth 12 (p_v 2) T.cls_Maker T.me_Maker_put (ok_Maker_put T) (hr.mono (by decide)) T.b_Maker_put pass0 (a_cons (r_v 4) a_nil))))
      s_nil))
      (s_frz 2 (s_frz 3 (s_cons (s_ret (g_f (f_tup (a_cons (r_v 3) (a_cons (r_f (f_cold (f_look0 12 (r_pl (p_v 2)) T.cls_Maker T.me_Maker_open_letters (ok_Maker_open_letters T) (hr.mono (by decide)) T.b_Maker_open_letters pass0))) a_nil))))) s_nil))))))
theorem ok_lw_cell (T : Tx K mg w) : FnOk P w K mg base CX0 1 T.a_lw_cell T.d_lw_cell ["_law_script", "_law_k"] (spD ⟨K, T.cl, w⟩ F_lw_cell) := by
  refine ok_def (N := N_lw_cell) (m := m_lw_cell) (kp := [true, true]) T.f_lw_cell sc_lw_cell rfl (fun cdv A outer s H XE en ek hr => ?_)
  have hu := hr.units
  have nd := (sc_lw_cell).nd
  exact (s_cons (s_if (t_cmp opr_lt op_cmpD (r_v 1) (r_f (f_blt cr_len op_lenD (by rfl) T.z_len (by decide +kernel) (a_cons (r_v 0) a_nil))) (nomark _)) (s_cons (s_ret (g_r (r_ix hu (r_v 0) (r_v 1)))) s_nil) s_nil)
      (s_cons (s_ret (g_f f_int)) s_nil))
theorem ok_lw_mix (T : Tx K mg w) : FnOk P w K mg base CX0 1 T.a_lw_mix T.d_lw_mix ["_law_cell_here", "_law_k"] (spD ⟨K, T.cl, w⟩ F_lw_mix) := by
  refine ok_def (N := N_lw_mix) (m := m_lw_mix) (kp := [true, true]) T.f_lw_mix sc_lw_mix rfl (fun cdv A outer s H XE en ek hr => ?_)
  have hu := hr.units
  have nd := (sc_lw_mix).nd
  exact (s_cons (s_if (t_cmp opr_gt op_cmpD (r_v 0) (r_f (f_bin op_pow op_powD (r_f f_int) (r_f f_int))) (nomark _)) (s_cons (s_set 2 nd (by rfl) (by first | exact Or.inl rfl | exact Or.inr rfl) (by rw [ek]; decide) (g_r (r_v 0)))
      (s_cons (s_for [3] PassesOwn.never rfl (i_rng1 (by rfl) T.z_range (r_v 1)) (g_name 3 nd (by rfl) (by first | exact Or.inl rfl | exact Or.inr rfl) (by rw [ek]; decide)) (s_cons (s_set 2 nd (by rfl) (by first | exact Or.inl rfl | exact Or.inr rfl) (by rw [ek]; decide) (g_f (f_bin op_fdivW op_fdivD (r_v 2) (r_f (f_bin op_pow op_powD (r_f f_int) (r_f f_int))))))
      s_nil))
      (s_cons (s_ret (g_f (f_bin op_mod op_modD (r_v 2) (r_f (f_bin op_pow op_powD (r_f f_int) (r_f f_int)))))) s_nil))) s_nil)
      (s_cons (s_set 4 nd (by rfl) (by first | exact Or.inl rfl | exact Or.inr rfl) (by rw [ek]; decide) (g_f (f_bin opr_add op_addD (r_f (f_bin op_mod op_modD (r_v 0) (r_f f_int))) (r_f f_int))))
      (s_cons (s_for [3] PassesOwn.never rfl (i_rng1 (by rfl) T.z_range (r_f (f_bin opr_add op_addD (r_v 1) (r_f f_int)))) (g_name 3 nd (by rfl) (by first | exact Or.inl rfl | exact Or.inr rfl) (by rw [ek]; decide)) (s_cons (s_set 4 nd (by rfl) (by first | exact Or.inl rfl | exact Or.inr rfl) (by rw [ek]; decide) (g_f (f_bin op_mod op_modD (r_f (f_bin opr_add op_addD (r_f (f_bin opr_mul op_mulD (r_v 4) (r_f f_int))) (r_f f_int))) (r_f f_int))))
      s_nil))
      (s_cons (s_ret (g_f (f_bin op_fdivW op_fdivD (r_f (f_bin op_mod op_modD (r_f (f_bin opr_mul op_mulD (r_v 4) (r_v 4))) (r_f f_int))) (r_f f_int)))) s_nil))))
theorem ok_lw_parts (T : Tx K mg w) : FnOk P w K mg base CX0 1 T.a_lw_parts T.d_lw_parts ["_law_items", "_law_most"] (spD ⟨K, T.cl, w⟩ F_lw_parts) := by
  refine ok_def (N := N_lw_parts) (m := m_lw_parts) (kp := [true, true]) T.f_lw_parts sc_lw_parts rfl (fun cdv A outer s H XE en ek hr => ?_)
  have hu := hr.units
  have nd := (sc_lw_parts).nd
  exact (s_cons (s_set 2 nd (by rfl) (by first | exact Or.inl rfl | exact Or.inr rfl) (by rw [ek]; decide) (g_f (f_lst a_nil)))
      (s_cons (s_set 3 nd (by rfl) (by first | exact Or.inl rfl | exact Or.inr rfl) (by rw [ek]; decide) (g_f (f_lst a_nil)))
      (s_cons (s_set 4 nd (by rfl) (by first | exact Or.inl rfl | exact Or.inr rfl) (by rw [ek]; decide) (g_f f_bl))
      (s_cons (s_set 5 nd (by rfl) (by first | exact Or.inl rfl | exact Or.inr rfl) (by rw [ek]; decide) (g_f (f_lst (a_cons (r_f (f_str [46])) (a_cons (r_f (f_str [46])) a_nil)))))
      (s_cons (s_for [6, 7, 8] PassesOwn.never rfl (i_seq (r_v 0)) (g_tup rfl (gs_cons (g_name 6 nd (by rfl) (by first | exact Or.inl rfl | exact Or.inr rfl) (by rw [ek]; decide)) (gs_cons (g_name 7 nd (by rfl) (by first | exact Or.inl rfl | exact Or.inr rfl) (by rw [ek]; decide)) (gs_cons (g_name 8 nd (by rfl) (by first | exact Or.inl rfl | exact Or.inr rfl) (by rw [ek]; decide)) gs_nil))) (hlen := len_cons (len_cons (len_cons (fun _ _ _ h => len_nil h))))) (s_cons (s_if (t_w (w_and (t_val (r_v 4)) (w_and (tv_cmp (op_neD hu) op_neqD flat_ne (v_r (r_v 7)) (v_r (r_f (f_str [101, 110, 100]))) (nomark _)) (w_and1 (tv_cmp (op_neD hu) op_neqD flat_ne (v_r (r_v 7)) (v_r (r_f (f_str [97, 110, 101, 119]))) (nomark _)))))) (s_cons (s_set 3 nd (by rfl) (by first | exact Or.inl rfl | exact Or.inr rfl) (by rw [ek]; decide) (g_f (f_lst a_nil)))
      (s_cons (s_set 4 nd (by rfl) (by first | exact Or.inl rfl | exact Or.inr rfl) (by rw [ek]; decide) (g_f f_bl))
      s_nil)) s_nil)
      (s_kill [] (s_cons (s_if (tv_cmp (op_eqD hu) op_eqqD flat_eq (v_r (r_v 7)) (v_r (r_f (f_str [115, 105, 103, 110]))) (nomark _)) (s_cons (s_if (tv_cmp (op_eqD hu) op_eqqD flat_eq (v_r (r_f (f_blt cr_len op_lenD (by rfl) T.z_len (by decide +kernel) (a_cons (r_v 3) a_nil)))) (v_r (r_v 1)) (nomark _)) (s_cons (s_expr (g_appO 2 (g_tupO (ao_cons (g_mv (p_v 3)) (ao_cons (g_f (f_str [109, 111, 114, 101])) ao_nil)))))
      (s_cons (s_set 3 nd (by rfl) (by first | exact Or.inl rfl | exact Or.inr rfl) (by rw [ek]; decide) (g_f (f_lst a_nil)))
      s_nil)) s_nil)
      (s_kill [] (s_cons (s_set 3 nd (by rfl) (by first | exact Or.inl rfl | exact Or.inr rfl) (by rw [ek]; decide) (g_f (f_bin opr_add op_addD (r_v 3) (r_f (f_lst (a_cons (r_f (f_tup (a_cons (r_v 8) (a_cons (r_ix hu (r_v 5) (r_f f_int)) (a_cons (r_ix hu (r_v 5) (r_f f_int)) (a_cons (r_v 6) a_nil)))))) a_nil))))))
      s_nil))) (s_cons (s_if (tv_cmp (op_eqD hu) op_eqqD flat_eq (v_r (r_v 7)) (v_r (r_f (f_str [105, 110, 107]))) (nomark _)) (s_cons (s_store (g_r (r_v 8)) (p_v 5) (r_f f_int))
      s_nil) (s_cons (s_if (tv_cmp (op_eqD hu) op_eqqD flat_eq (v_r (r_v 7)) (v_r (r_f (f_str [103, 114, 111, 117, 110, 100]))) (nomark _)) (s_cons (s_store (g_r (r_v 8)) (p_v 5) (r_f f_int))
      s_nil) (s_cons (s_set 5 nd (by rfl) (by first | exact Or.inl rfl | exact Or.inr rfl) (by rw [ek]; decide) (g_f (f_lst (a_cons (r_f (f_str [46])) (a_cons (r_f (f_str [46])) a_nil)))))
      s_nil))
      (s_kill [] s_nil)))
      (s_kill [] s_nil)))
      (s_kill [] (s_cons (s_if (tv_cmp (op_eqD hu) op_eqqD flat_eq (v_r (r_v 7)) (v_r (r_f (f_str [97, 110, 101, 119]))) (nomark _)) (s_cons (s_set 4 nd (by rfl) (by first | exact Or.inl rfl | exact Or.inr rfl) (by rw [ek]; decide) (g_f f_bl))
      s_nil) s_nil)
      (s_kill [] (s_cons (s_if (tv_cmp (op_eqD hu) op_eqqD flat_eq (v_r (r_v 7)) (v_r (r_f (f_str [101, 110, 100]))) (nomark _)) (s_cons (s_expr (g_appO 2 (g_tupO (ao_cons (g_mv (p_v 3)) (ao_cons (g_f (f_str [119, 104, 111, 108, 101])) ao_nil)))))
      (s_cons (s_set 3 nd (by rfl) (by first | exact Or.inl rfl | exact Or.inr rfl) (by rw [ek]; decide) (g_f (f_lst a_nil)))
      (s_cons (s_set 4 nd (by rfl) (by first | exact Or.inl rfl | exact Or.inr rfl) (by rw [ek]; decide) (g_f f_bl))
      s_nil))) s_nil)
      (s_kill [] s_nil)))))))))
      (s_cons (s_ret (g_tupO (ao_cons (g_mv (p_v 2)) (ao_cons (g_mv (p_v 3)) ao_nil)))) s_nil))))))
theorem okH_lw_whole__X1 (T : Tx K mg w) : L2H.FnH P w K mg base CX0 1 T.a_lw_whole__X1 T.d_lw_whole__X1 ["_law_found"] (spD ⟨K, T.cl, w⟩ F_lw_whole__X1) := by
  refine okH_def (N := N_lw_whole__X1) (m := m_lw_whole__X1) (kp := [true]) T.f_lw_whole__X1 sc_lw_whole__X1 rfl (fun cdv A outer s H XE p en ek hr => ?_)
  have hu := roomH_units hr
  have nd := (sc_lw_whole__X1).nd
  exact (s_cons (s_ret (g_f (f_and (r_f (f_isi' (r_v 0) (pe_bltn (v := .ty "int") (u := .type "int") (by rfl) T.z_int (by decide +kernel) rfl) T.z_isinstance)) (f_one (f_not (r_f (f_isi' (r_v 0) (pe_bltn (v := .ty "bool") (u := .type "bool") (by rfl) T.z_bool (by decide +kernel) rfl) T.z_isinstance))))))) s_nil)
theorem ok_lw_whole (T : Tx K mg w) : FnOk P w K mg base CX0 1 T.a_lw_whole T.d_lw_whole ["_law_found"] (spD ⟨K, T.cl, w⟩ F_lw_whole) := by
  refine ok_def (N := N_lw_whole) (m := m_lw_whole) (kp := [true]) T.f_lw_whole sc_lw_whole rfl (fun cdv A outer s H XE en ek hr => ?_)
  have hu := hr.units
  have nd := (sc_lw_whole).nd
  exact (s_cons (s_ret (g_f (f_and (r_f (f_isi' (r_v 0) (pe_bltn (v := .ty "int") (u := .type "int") (by rfl) T.z_int (by decide +kernel) rfl) T.z_isinstance)) (f_one (f_not (r_f (f_isi' (r_v 0) (pe_bltn (v := .ty "bool") (u := .type "bool") (by rfl) T.z_bool (by decide +kernel) rfl) T.z_isinstance))))))) s_nil)
theorem ok_lw_letters_right (T : Tx K mg w) : FnOk P w K mg base CX0 2 T.a_lw_letters_right T.d_lw_letters_right ["_law_found", "_law_due"] (spD ⟨K, T.cl, w⟩ F_lw_letters_right) := by
  refine ok_def (N := N_lw_letters_right) (m := m_lw_letters_right) (kp := [true, true]) T.f_lw_letters_right sc_lw_letters_right rfl (fun cdv A outer s H XE en ek hr => ?_)
  have hu := hr.units
  have nd := (sc_lw_letters_right).nd
  exact (s_cons (s_if (t_w (w_or (t_not (t_val (r_f (f_isi' (r_v 0) (pe_bltn (v := .ty "list") (u := .type "list") (by rfl) T.z_list (by decide +kernel) rfl) T.z_isinstance)))) (w_or1 (tv_cmp (op_neD hu) op_neqD flat_ne (v_r (r_f (f_blt cr_len op_lenD (by rfl) T.z_len (by decide +kernel) (a_cons (r_v 0) a_nil)))) (v_r (r_f (f_blt cr_len op_lenD (by rfl) T.z_len (by decide +kernel) (a_cons (r_v 1) a_nil)))) (nomark _))))) (s_cons (s_ret (g_f f_bl)) s_nil) s_nil)
      (s_cons (s_for [2] PassesOwn.never rfl (i_seq (r_v 0)) (g_name 2 nd (by rfl) (by first | exact Or.inl rfl | exact Or.inr rfl) (by rw [ek]; decide)) (s_cons (s_if (t_w (w_or (t_not (t_val (r_f (f_isi' (r_v 2) (pe_bltn (v := .ty "tuple") (u := .type "tuple") (by rfl) T.z_tuple (by decide +kernel) rfl) T.z_isinstance)))) (w_or (tv_cmp (op_neD hu) op_neqD flat_ne (v_r (r_f (f_blt cr_len op_lenD (by rfl) T.z_len (by decide +kernel) (a_cons (r_v 2) a_nil)))) (v_r (r_f f_int)) (nomark _)) (w_or1 (t_not (t_val (r_f (f_call (ok_lw_whole T) (hr.mono (by decide)) (by rfl) T.g_lw_whole T.f_lw_whole.kp T.b_lw_whole pass0 (a_cons (r_ix hu (r_v 2) (r_f f_int)) a_nil))))))))) (s_cons (s_ret (g_f f_bl)) s_nil) s_nil)
      (s_cons (s_if (tv_cmp (op_neD hu) op_neqD flat_ne (v_r (r_f (f_lcV [("_law_thing", 3)] (by rfl) rfl nd (i_seqV (r_f (f_sl (r_v 2) o_none (o_some (r_f f_int))))) (blkOk_by (own := [("_law_thing", 3)]) (N := N_lw_letters_right) (sc := defScope s_lw_letters_right) (by decide +kernel)) (fun _ _ _ _ _ => (g_name 3 nd (by rfl) (by first | exact Or.inl rfl | exact Or.inr rfl) (by rw [ek]; decide))) (fun _ _ _ _ _ => ts_nil) (fun _ _ _ _ _ => (r_f (f_isi' (r_v 3) (pe_bltn (v := .ty "str") (u := .type "str") (by rfl) T.z_str (by decide +kernel) rfl) T.z_isinstance))) (by decide) (by rw [ek]; decide)))) (v_r (r_f (f_lst (a_cons (r_f f_bl) (a_cons (r_f f_bl) (a_cons (r_f f_bl) a_nil)))))) (nomark _)) (s_cons (s_ret (g_f f_bl)) s_nil) s_nil)
      s_nil)))
      (s_cons (s_ret (g_f (v_cmp (op_eqD hu) op_eqqD flat_eq (v_r (r_v 0)) (v_r (r_v 1)) (nomark _)))) s_nil)))
theorem ok_lw_parts_right (T : Tx K mg w) : FnOk P w K mg base CX0 3 T.a_lw_parts_right T.d_lw_parts_right ["_law_found", "_law_due"] (spD ⟨K, T.cl, w⟩ F_lw_parts_right) := by
  refine ok_def (N := N_lw_parts_right) (m := m_lw_parts_right) (kp := [true, true]) T.f_lw_parts_right sc_lw_parts_right rfl (fun cdv A outer s H XE en ek hr => ?_)
  have hu := hr.units
  have nd := (sc_lw_parts_right).nd
  exact (s_cons (s_if (t_w (w_or (t_not (t_val (r_f (f_isi' (r_v 0) (pe_bltn (v := .ty "list") (u := .type "list") (by rfl) T.z_list (by decide +kernel) rfl) T.z_isinstance)))) (w_or1 (tv_cmp (op_neD hu) op_neqD flat_ne (v_r (r_f (f_blt cr_len op_lenD (by rfl) T.z_len (by decide +kernel) (a_cons (r_v 0) a_nil)))) (v_r (r_f (f_blt cr_len op_lenD (by rfl) T.z_len (by decide +kernel) (a_cons (r_v 1) a_nil)))) (nomark _))))) (s_cons (s_ret (g_f f_bl)) s_nil) s_nil)
      (s_cons (s_for [2, 3] PassesOwn.never rfl (i_zip (by rfl) T.z_zip (r_v 0) (r_v 1)) (g_tup rfl (gs_cons (g_name 2 nd (by rfl) (by first | exact Or.inl rfl | exact Or.inr rfl) (by rw [ek]; decide)) (gs_cons (g_name 3 nd (by rfl) (by first | exact Or.inl rfl | exact Or.inr rfl) (by rw [ek]; decide)) gs_nil)) (hlen := len_cons (len_cons (fun _ _ _ h => len_nil h)))) (s_cons (s_if (t_w (w_or (t_not (t_val (r_f (f_isi' (r_v 2) (pe_bltn (v := .ty "tuple") (u := .type "tuple") (by rfl) T.z_tuple (by decide +kernel) rfl) T.z_isinstance)))) (w_or (tv_cmp (op_neD hu) op_neqD flat_ne (v_r (r_f (f_blt cr_len op_lenD (by rfl) T.z_len (by decide +kernel) (a_cons (r_v 2) a_nil)))) (v_r (r_f f_int)) (nomark _)) (w_or1 (tv_cmp (op_neD hu) op_neqD flat_ne (v_r (r_ix hu (r_v 2) (r_f f_int))) (v_r (r_ix hu (r_v 3) (r_f f_int))) (nomark _)))))) (s_cons (s_ret (g_f f_bl)) s_nil) s_nil)
      (s_cons (s_if (t_not (t_val (r_f (f_call (ok_lw_letters_right T) (hr.mono (by decide)) (by rfl) T.g_lw_letters_right T.f_lw_letters_right.kp T.b_lw_letters_right pass0 (a_cons (r_ix hu (r_v 2) (r_f f_int)) (a_cons (r_ix hu (r_v 3) (r_f f_int)) a_nil)))))) (s_cons (s_ret (g_f f_bl)) s_nil) s_nil)
      s_nil)))
      (s_cons (s_ret (g_f f_bl)) s_nil)))
theorem ok_lw_bad_most (T : Tx K mg w) : FnOk P w K mg base CX0 2 T.a_lw_bad_most T.d_lw_bad_most ["_law_cell_here"] (spD ⟨K, T.cl, w⟩ F_lw_bad_most) := by
  refine ok_def (N := N_lw_bad_most) (m := m_lw_bad_most) (kp := [true]) T.f_lw_bad_most sc_lw_bad_most rfl (fun cdv A outer s H XE en ek hr => ?_)
  have hu := hr.units
  have nd := (sc_lw_bad_most).nd
  exact (s_cons (s_set 1 nd (by rfl) (by first | exact Or.inl rfl | exact Or.inr rfl) (by rw [ek]; decide) (g_f (f_bin op_mod op_modD (r_f (f_call (ok_lw_mix T) (hr.mono (by decide)) (by rfl) T.g_lw_mix T.f_lw_mix.kp T.b_lw_mix pass0 (a_cons (r_v 0) (a_cons (r_f f_int) a_nil)))) (r_f f_int))))
      (s_cons (s_set 2 nd (by rfl) (by first | exact Or.inl rfl | exact Or.inr rfl) (by rw [ek]; decide) (g_f (f_cold (f_lst (a_cons (r_f f_int) (a_cons (r_f f_int) (a_cons (r_f (f_bin opr_add op_addD (r_f f_int) (r_v 1))) (a_cons (r_f (f_bin op_sub op_subD (r_f (f_neg (r_f f_int))) (r_v 1))) (a_cons (r_f f_bl) (a_cons (r_f f_bl) (a_cons (r_f f_non) (a_cons (r_f (f_str [53])) (a_cons (r_f (f_cold (f_lst (a_cons (r_f f_int) a_nil)))) (a_cons (r_f (f_tup (a_cons (r_f f_int) a_nil))) (a_cons (r_f (f_cold f_dnew)) (a_cons (r_f (f_bin opr_add op_addD (r_f (f_bin op_pow op_powD (r_f f_int) (r_f f_int))) (r_v 1))) a_nil))))))))))))))))
      (s_cons (s_ret (g_r (r_ix hu (r_v 2) (r_f (f_bin op_mod op_modD (r_f (f_call (ok_lw_mix T) (hr.mono (by decide)) (by rfl) T.g_lw_mix T.f_lw_mix.kp T.b_lw_mix pass0 (a_cons (r_v 0) (a_cons (r_f f_int) a_nil)))) (r_f f_int)))))) s_nil)))
theorem ok_lw_word (T : Tx K mg w) : FnX P w K mg base 2 T.a_lw_word T.d_lw_word ["_law_e"] (spE ⟨K, T.cl, w⟩ (okL xL_OutError) F_lw_word) := by
  refine okE_def (N := N_lw_word) (m := m_lw_word) T.f_lw_word sc_lw_word (fun cdv A outer s H XE a oe cls d n fs es en hz hf ek hsub hh hr => ?_)
  have hu := roomH_units hr
  have nd := (sc_lw_word).nd
  exact (s_cons (s_if (t_val (r_f (f_isXT (([5, 9, 3, 2, 8, 7, 10, 4] : List Nat).any (subX n)) hh hz hf (T.xc n fs (sbX_OutError _ (okL_mem hsub))) (cs := ([5, 9, 3, 2, 8, 7, 10, 4] : List Nat).map fun k => V.ref (T.cl k)) (fun _ _ _ h => h) (paired_cls [5, 9, 3, 2, 8, 7, 10, 4]) (by rw [List.length_map]; decide) (kitAny_subs [5, 9, 3, 2, 8, 7, 10, 4] (fun k hk => T.xk n fs k (sbX_OutError _ (okL_mem hsub)) (by revert k; decide))) (pa_cons (pe_glob (v := .ref (T.cl 5)) (by rfl) T.gc_Closed rfl (by decide)) (pa_cons (pe_glob (v := .ref (T.cl 9)) (by rfl) T.gc_NoCell rfl (by decide)) (pa_cons (pe_glob (v := .ref (T.cl 3)) (by rfl) T.gc_NoHand rfl (by decide)) (pa_cons (pe_glob (v := .ref (T.cl 2)) (by rfl) T.gc_NoName rfl (by decide)) (pa_cons (pe_glob (v := .ref (T.cl 8)) (by rfl) T.gc_NoRoll rfl (by decide)) (pa_cons (pe_glob (v := .ref (T.cl 7)) (by rfl) T.gc_NoRoom rfl (by decide)) (pa_cons (pe_glob (v := .ref (T.cl 10)) (by rfl) T.gc_NoRow rfl (by decide)) (pa_cons (pe_glob (v := .ref (T.cl 4)) (by rfl) T.gc_Twice rfl (by decide)) pa_nil)))))))) T.z_isinstance))) (s_cons (s_ret (g_f (f_tup (a_cons (r_f (f_str [111, 116, 104, 101, 114])) (a_cons (r_f f_int) a_nil))))) s_nil) s_nil)
      (s_cons (s_if (t_w (w_or (t_w (w_and (t_val (r_f (f_isX (subX n 6) hh hz hf (T.xc n fs (sbX_OutError _ (okL_mem hsub))) (.own (T.cl 6)) (T.xk n fs 6 (sbX_OutError _ (okL_mem hsub)) (by decide)) (pe_glob (v := .ref (T.cl 6)) (by rfl) T.gc_NoSize rfl (by decide)) T.z_isinstance))) (w_and1 (t_val (r_f (f_isX (subX n 1) hh hz hf (T.xc n fs (sbX_OutError _ (okL_mem hsub))) (.own (T.cl 1)) (T.xk n fs 1 (sbX_OutError _ (okL_mem hsub)) (by decide)) (pe_glob (v := .ref (T.cl 1)) (by rfl) T.gc_NoSign rfl (by decide)) T.z_isinstance)))))) (w_or1 (t_not (t_val (r_f (f_isX true hh hz hf (T.xc n fs (sbX_OutError _ (okL_mem hsub))) (.ty "ValueError") (T.xv n fs (sbX_OutError _ (okL_mem hsub))) (pe_bltn (v := .ty "ValueError") (u := .type "ValueError") (by rfl) T.z_ValueError (by decide +kernel) rfl) T.z_isinstance))))))) (s_cons (s_ret (g_f (f_tup (a_cons (r_f (f_str [111, 116, 104, 101, 114])) (a_cons (r_f f_int) a_nil))))) s_nil) s_nil)
      (s_cons (s_if (t_val (r_f (f_isX (subX n 6) hh hz hf (T.xc n fs (sbX_OutError _ (okL_mem hsub))) (.own (T.cl 6)) (T.xk n fs 6 (sbX_OutError _ (okL_mem hsub)) (by decide)) (pe_glob (v := .ref (T.cl 6)) (by rfl) T.gc_NoSize rfl (by decide)) T.z_isinstance))) (s_cons (s_ret (g_f (f_tup (a_cons (r_f (f_str [115, 105, 122, 101])) (a_cons (r_f f_int) a_nil))))) s_nil) s_nil)
      (s_cons (s_if (t_w (w_and (t_val (r_f (f_isX (subX n 1) hh hz hf (T.xc n fs (sbX_OutError _ (okL_mem hsub))) (.own (T.cl 1)) (T.xk n fs 1 (sbX_OutError _ (okL_mem hsub)) (by decide)) (pe_glob (v := .ref (T.cl 1)) (by rfl) T.gc_NoSign rfl (by decide)) T.z_isinstance))) (w_and1 (t_val (r_f (f_callHH hz hf (okH_lw_whole__X1 T) (hr.mono (by decide)) (by rfl) T.g_lw_whole__X1 T.f_lw_whole__X1.kp T.b_lw_whole__X1 (a_cons (r_f (f_fldX hh hz hf (T.xc n fs (sbX_OutError _ (okL_mem hsub))) (T.xf_at n fs (sbX_OutError _ (okL_mem hsub))))) a_nil))))))) (s_cons (s_ret (g_f (f_tup (a_cons (r_f (f_str [115, 105, 103, 110])) (a_cons (r_f (f_fldX hh hz hf (T.xc n fs (sbX_OutError _ (okL_mem hsub))) (T.xf_at n fs (sbX_OutError _ (okL_mem hsub))))) a_nil))))) s_nil) s_nil)
      (s_cons (s_ret (g_f (f_tup (a_cons (r_f (f_str [111, 116, 104, 101, 114])) (a_cons (r_f f_int) a_nil))))) s_nil)))))
theorem ok_lw_asked (T : Tx K mg w) : FnOk P w K mg base CX0 7 T.a_lw_asked T.d_lw_asked ["_law_text", "_law_most"] (spD ⟨K, T.cl, w⟩ F_lw_asked) := by
  refine ok_def (N := N_lw_asked) (m := m_lw_asked) (kp := [true, true]) T.f_lw_asked sc_lw_asked rfl (fun cdv A outer s H XE en ek hr => ?_)
  have hu := hr.units
  have nd := (sc_lw_asked).nd
  exact (s_cons (s_tryAs 2 [true, true, true] (by rw [ek]; rfl) rfl rfl nd (by rfl) (by rfl) ⟨rfl, by decide, .inl T.gc_OutError⟩ (by rw [ek]; decide) (fun n fs h => T.xm_OutError n fs (okL_mem h)) (fun W pn xe tk _ => s_one (s_exprX (f_callX (ok_rows_of__X1 T) (hr.mono (by decide)) (by rfl) T.g_rows_of__X1 T.f_rows_of__X1.kp T.b_rows_of__X1 tk (a_cons (r_v 0) (a_cons (r_v 1) a_nil))))) (fun a oe cls d pn n fs es en hz hf ek hsub hh => (s_cons (s_ret (g_f (f_callE hh hz hf hsub (ok_lw_word T) (L2H.roomH_of (hr.mono (by decide))) (by rfl) T.g_lw_word T.f_lw_word.kp T.b_lw_word))) s_nil)))
      (s_kill [2] (s_cons (s_ret (g_f (f_tup (a_cons (r_f (f_str [116, 111, 108, 100])) (a_cons (r_f f_int) a_nil))))) s_nil)))
theorem ok_lw_made (T : Tx K mg w) : FnOk P w K mg base CX0 4 T.a_lw_made T.d_lw_made ["_law_most"] (spD ⟨K, T.cl, w⟩ F_lw_made) := by
  refine ok_def (N := N_lw_made) (m := m_lw_made) (kp := [true]) T.f_lw_made sc_lw_made rfl (fun cdv A outer s H XE en ek hr => ?_)
  have hu := hr.units
  have nd := (sc_lw_made).nd
  exact (s_cons (s_tryAs 1 [true, true] (by rw [ek]; rfl) rfl rfl nd (by rfl) (by rfl) ⟨rfl, by decide, .inl T.gc_OutError⟩ (by rw [ek]; decide) (fun n fs h => T.xm_OutError n fs (okL_mem h)) (fun W pn xe tk _ => s_one (s_exprX (f_mkX 12 T.mk_Maker__X1 (ok_Maker_init__X1 T) (hr.mono (by decide)) (by rfl) T.gc_Maker T.b_Maker_init__X1 tk (a_cons (r_v 0) a_nil)))) (fun a oe cls d pn n fs es en hz hf ek hsub hh => (s_cons (s_ret (g_f (f_callE hh hz hf hsub (ok_lw_word T) (L2H.roomH_of (hr.mono (by decide))) (by rfl) T.g_lw_word T.f_lw_word.kp T.b_lw_word))) s_nil)))
      (s_kill [1] (s_cons (s_ret (g_f (f_tup (a_cons (r_f (f_str [116, 111, 108, 100])) (a_cons (r_f f_int) a_nil))))) s_nil)))
theorem ok_lw_by_turns (T : Tx K mg w) : FnOk P w K mg base CX0 4 T.a_lw_by_turns T.d_lw_by_turns ["_law_script", "_law_mosts"] (spD ⟨K, T.cl, w⟩ F_lw_by_turns) := by
  refine ok_def (N := N_lw_by_turns) (m := m_lw_by_turns) (kp := [true, true]) T.f_lw_by_turns sc_lw_by_turns rfl (fun cdv A outer s H XE en ek hr => ?_)
  have hu := hr.units
  have nd := (sc_lw_by_turns).nd
  exact (s_cons (s_setLcO 2 [("_law_most", 12)] (by rfl) rfl nd (by rfl) (by rfl) (by rw [ek]; decide) (i_seqV (r_v 1)) (blkOk_by (own := [("_law_most", 12)]) (N := N_lw_by_turns) (sc := defScope s_lw_by_turns) (by decide +kernel)) (fun _ _ _ _ _ => (g_name 12 nd (by rfl) (by first | exact Or.inl rfl | exact Or.inr rfl) (by rw [ek]; decide))) (fun _ _ _ _ _ => ts_nil) (fun _ _ _ _ _ => (f_mk 12 T.mk_Maker (ok_Maker_init T) (hr.mono (by decide)) (by rfl) T.gc_Maker T.b_Maker_init pass0 (a_cons (r_v 12) a_nil))) (by decide) (by rw [ek]; decide) (sw_true rfl rfl rfl (by decide +kernel)))
      (s_cons (s_set 3 nd (by rfl) (by first | exact Or.inl rfl | exact Or.inr rfl) (by rw [ek]; decide) (g_lstO (ao_cons (g_f (f_lst a_nil)) (ao_cons (g_f (f_lst a_nil)) (ao_cons (g_f (f_lst a_nil)) ao_nil)))))
      (s_cons (s_for [4, 5, 6, 7, 8, 9, 10, 11] PassesOwn.never rfl (i_rng1 (by rfl) T.z_range (r_f (f_blt cr_len op_lenD (by rfl) T.z_len (by decide +kernel) (a_cons (r_f (f_sl (r_v 0) o_none (o_some (r_f f_int)))) a_nil)))) (g_name 4 nd (by rfl) (by first | exact Or.inl rfl | exact Or.inr rfl) (by rw [ek]; decide)) (s_cons (s_set 5 nd (by rfl) (by first | exact Or.inl rfl | exact Or.inr rfl) (by rw [ek]; decide) (g_r (r_ix hu (r_v 0) (r_v 4))))
      (s_cons (s_set 6 nd (by rfl) (by first | exact Or.inl rfl | exact Or.inr rfl) (by rw [ek]; decide) (g_f (f_bin op_mod op_modD (r_f (f_call (ok_lw_mix T) (hr.mono (by decide)) (by rfl) T.g_lw_mix T.f_lw_mix.kp T.b_lw_mix pass0 (a_cons (r_v 5) (a_cons (r_f f_int) a_nil)))) (r_f f_int))))
      (s_cons (s_set 7 nd (by rfl) (by first | exact Or.inl rfl | exact Or.inr rfl) (by rw [ek]; decide) (g_f (f_blt cr_len op_lenD (by rfl) T.z_len (by decide +kernel) (a_cons (r_ix hu (r_f (f_call (ok_lw_parts T) (hr.mono (by decide)) (by rfl) T.g_lw_parts T.f_lw_parts.kp T.b_lw_parts pass0 (a_cons (r_ix hu (r_v 3) (r_v 6)) (a_cons (r_ix hu (r_v 1) (r_v 6)) a_nil)))) (r_f f_int)) a_nil))))
      (s_cons (s_set 8 nd (by rfl) (by first | exact Or.inl rfl | exact Or.inr rfl) (by rw [ek]; decide) (g_r (r_ix hu (r_f (f_lst (a_cons (r_f (f_str [115, 105, 103, 110])) (a_cons (r_f (f_str [115, 105, 103, 110])) (a_cons (r_f (f_str [105, 110, 107])) (a_cons (r_f (f_str [101, 110, 100])) (a_cons (r_f (f_str [97, 110, 101, 119])) (a_cons (r_f (f_str [115, 105, 103, 110])) a_nil)))))))) (r_f (f_bin op_mod op_modD (r_f (f_call (ok_lw_mix T) (hr.mono (by decide)) (by rfl) T.g_lw_mix T.f_lw_mix.kp T.b_lw_mix pass0 (a_cons (r_v 5) (a_cons (r_f f_int) a_nil)))) (r_f f_int))))))
      (s_cons (s_set 9 nd (by rfl) (by first | exact Or.inl rfl | exact Or.inr rfl) (by rw [ek]; decide) (g_r (r_ix hu (r_f (f_lst (a_cons (r_f (f_str [])) (a_cons (r_ix hu (r_f (f_str [97, 98, 99])) (r_f (f_bin op_mod op_modD (r_f (f_call (ok_lw_mix T) (hr.mono (by decide)) (by rfl) T.g_lw_mix T.f_lw_mix.kp T.b_lw_mix pass0 (a_cons (r_v 5) (a_cons (r_f f_int) a_nil)))) (r_f f_int)))) a_nil)))) (r_f (f_bty call_int1 op_intD (by rfl) T.z_int (by decide +kernel) (a_cons (r_f (f_or (r_f (v_cmp (op_eqD hu) op_eqqD flat_eq (v_r (r_v 8)) (v_r (r_f (f_str [115, 105, 103, 110]))) (nomark _))) (f_one (v_cmp (op_eqD hu) op_eqqD flat_eq (v_r (r_v 8)) (v_r (r_f (f_str [105, 110, 107]))) (nomark _))))) a_nil))))))
      (s_cons (s_expr (g_app (p_ix (p_v 3) (n_v 6)) (f_tup (a_cons (r_v 4) (a_cons (r_v 8) (a_cons (r_v 9) a_nil))))))
      (s_cons (s_asg (g_f (f_cold (f_call (ok_lw_parts T) (hr.mono (by decide)) (by rfl) T.g_lw_parts T.f_lw_parts.kp T.b_lw_parts pass0 (a_cons (r_ix hu (r_v 3) (r_v 6)) (a_cons (r_ix hu (r_v 1) (r_v 6)) a_nil))))) (g_tup rfl (gs_cons (g_name 10 nd (by rfl) (by first | exact Or.inl rfl | exact Or.inr rfl) (by rw [ek]; decide)) (gs_cons (g_name 11 nd (by rfl) (by first | exact Or.inl rfl | exact Or.inr rfl) (by rw [ek]; decide)) gs_nil)) (hlen := len_cons (len_cons (fun _ _ _ h => len_nil h)))))
      (s_cons (s_ifG (tg_not (tg_val (g_callG (ok_lw_parts_right T) (hr.mono (by decide)) (by rfl) T.g_lw_parts_right T.f_lw_parts_right.kp T.b_lw_parts_right pass0 (ag_cons (g_meth 12 (p_ix (p_v 2) (n_v 6)) T.cls_Maker T.me_Maker_put (ok_Maker_put T) (hr.mono (by decide)) T.b_Maker_put pass0 (a_cons (r_ix hu (r_ix hu (r_v 3) (r_v 6)) (r_f (f_neg (r_f f_int)))) a_nil)) (ag_cons (g_f (f_cold (f_sl (r_v 10) (o_some (r_v 7)) o_none))) ag_nil))))) (s_cons (s_ret (g_f f_bl)) s_nil) s_nil)
      s_nil)))))))))
      (s_frz 3 (s_frz 2 (s_cons (s_for [6] PassesOwn.never rfl (i_rng1 (by rfl) T.z_range (r_f f_int)) (g_name 6 nd (by rfl) (by first | exact Or.inl rfl | exact Or.inr rfl) (by rw [ek]; decide)) (s_cons (s_if (t_not (t_val (r_f (f_call (ok_lw_letters_right T) (hr.mono (by decide)) (by rfl) T.g_lw_letters_right T.f_lw_letters_right.kp T.b_lw_letters_right pass0 (a_cons (r_f (f_cold (f_look0 12 (r_ix hu (r_v 2) (r_v 6)) T.cls_Maker T.me_Maker_open_letters (ok_Maker_open_letters T) (hr.mono (by decide)) T.b_Maker_open_letters pass0))) (a_cons (r_ix hu (r_f (f_call (ok_lw_parts T) (hr.mono (by decide)) (by rfl) T.g_lw_parts T.f_lw_parts.kp T.b_lw_parts pass0 (a_cons (r_ix hu (r_v 3) (r_v 6)) (a_cons (r_ix hu (r_v 1) (r_v 6)) a_nil)))) (r_f f_int)) a_nil)))))) (s_cons (s_ret (g_f f_bl)) s_nil) s_nil)
      s_nil))
      (s_cons (s_ret (g_f f_bl)) s_nil)))))))
theorem ok_law (T : Tx K mg w) : FnOk P w K mg base CX0 8 T.a_law T.d_law ["_law_script"] (spD ⟨K, T.cl, w⟩ F_law) := by
  refine ok_def (N := N_law) (m := m_law) (kp := [true]) T.f_law sc_law rfl (fun cdv A outer s H XE en ek hr => ?_)
  have hu := hr.units
  have nd := (sc_law).nd
  exact (s_cons (s_set 1 nd (by rfl) (by first | exact Or.inl rfl | exact Or.inr rfl) (by rw [ek]; decide) (g_f (f_call (ok_lw_cell T) (hr.mono (by decide)) (by rfl) T.g_lw_cell T.f_lw_cell.kp T.b_lw_cell pass0 (a_cons (r_v 0) (a_cons (r_f f_int) a_nil)))))
      (s_cons (s_set 2 nd (by rfl) (by first | exact Or.inl rfl | exact Or.inr rfl) (by rw [ek]; decide) (g_f (f_call (ok_lw_bad_most T) (hr.mono (by decide)) (by rfl) T.g_lw_bad_most T.f_lw_bad_most.kp T.b_lw_bad_most pass0 (a_cons (r_v 1) a_nil))))
      (s_cons (s_set 3 nd (by rfl) (by first | exact Or.inl rfl | exact Or.inr rfl) (by rw [ek]; decide) (g_f (f_sl (r_f (f_str [119, 101, 97, 118, 101])) o_none (o_some (r_f (f_bin op_mod op_modD (r_f (f_call (ok_lw_mix T) (hr.mono (by decide)) (by rfl) T.g_lw_mix T.f_lw_mix.kp T.b_lw_mix pass0 (a_cons (r_v 1) (a_cons (r_f f_int) a_nil)))) (r_f f_int)))))))
      (s_cons (s_set 4 nd (by rfl) (by first | exact Or.inl rfl | exact Or.inr rfl) (by rw [ek]; decide) (g_f (f_bin opr_add op_addD (r_v 3) (r_f (f_str [126, 126])))))
      (s_cons (s_set 5 nd (by rfl) (by first | exact Or.inl rfl | exact Or.inr rfl) (by rw [ek]; decide) (g_r (r_ix hu (r_f (f_lst (a_cons (r_f f_int) (a_cons (r_f f_int) (a_cons (r_f f_int) a_nil))))) (r_f (f_bin op_mod op_modD (r_f (f_call (ok_lw_mix T) (hr.mono (by decide)) (by rfl) T.g_lw_mix T.f_lw_mix.kp T.b_lw_mix pass0 (a_cons (r_v 1) (a_cons (r_f f_int) a_nil)))) (r_f f_int))))))
      (s_cons (s_set 6 nd (by rfl) (by first | exact Or.inl rfl | exact Or.inr rfl) (by rw [ek]; decide) (g_f (f_cold (f_lst (a_cons (r_f (f_call (ok_lw_made T) (hr.mono (by decide)) (by rfl) T.g_lw_made T.f_lw_made.kp T.b_lw_made pass0 (a_cons (r_v 2) a_nil))) (a_cons (r_f (f_call (ok_lw_asked T) (hr.mono (by decide)) (by rfl) T.g_lw_asked T.f_lw_asked.kp T.b_lw_asked pass0 (a_cons (r_v 3) (a_cons (r_v 2) a_nil)))) (a_cons (r_f (f_call (ok_lw_asked T) (hr.mono (by decide)) (by rfl) T.g_lw_asked T.f_lw_asked.kp T.b_lw_asked pass0 (a_cons (r_v 4) (a_cons (r_v 2) a_nil)))) (a_cons (r_f (f_call (ok_lw_asked T) (hr.mono (by decide)) (by rfl) T.g_lw_asked T.f_lw_asked.kp T.b_lw_asked pass0 (a_cons (r_f f_non) (a_cons (r_v 2) a_nil)))) a_nil))))))))
      (s_cons (s_if (tv_cmp (op_neD hu) op_neqD flat_ne (v_r (r_v 6)) (v_r (r_f (f_bin opr_mul op_mulD (r_f (f_lst (a_cons (r_f (f_tup (a_cons (r_f (f_str [115, 105, 122, 101])) (a_cons (r_f f_int) a_nil)))) a_nil))) (r_f f_int)))) (nomark _)) (s_cons (s_ret (g_f f_bl)) s_nil) s_nil)
      (s_cons (s_if (t_w (w_or (tv_cmp (op_neD hu) op_neqD flat_ne (v_call (ok_lw_asked T) (hr.mono (by decide)) (by rfl) T.g_lw_asked T.f_lw_asked.kp T.b_lw_asked pass0 (a_cons (r_v 4) (a_cons (r_v 5) a_nil))) (v_r (r_f (f_tup (a_cons (r_f (f_str [115, 105, 103, 110])) (a_cons (r_f (f_blt cr_len op_lenD (by rfl) T.z_len (by decide +kernel) (a_cons (r_v 3) a_nil))) a_nil))))) (nomark _)) (w_or1 (tv_cmp (op_neD hu) op_neqD flat_ne (v_call (ok_lw_asked T) (hr.mono (by decide)) (by rfl) T.g_lw_asked T.f_lw_asked.kp T.b_lw_asked pass0 (a_cons (r_f (f_cold (f_lst (a_cons (r_v 3) a_nil)))) (a_cons (r_v 5) a_nil))) (v_r (r_f (f_tup (a_cons (r_f (f_str [115, 105, 103, 110])) (a_cons (r_f f_int) a_nil))))) (nomark _))))) (s_cons (s_ret (g_f f_bl)) s_nil) s_nil)
      (s_cons (s_if (t_w (w_or (tv_cmp (op_neD hu) op_neqD flat_ne (v_call (ok_lw_asked T) (hr.mono (by decide)) (by rfl) T.g_lw_asked T.f_lw_asked.kp T.b_lw_asked pass0 (a_cons (r_v 3) (a_cons (r_v 5) a_nil))) (v_r (r_f (f_tup (a_cons (r_f (f_str [116, 111, 108, 100])) (a_cons (r_f f_int) a_nil))))) (nomark _)) (w_or1 (tv_cmp (op_neD hu) op_neqD flat_ne (v_call (ok_lw_made T) (hr.mono (by decide)) (by rfl) T.g_lw_made T.f_lw_made.kp T.b_lw_made pass0 (a_cons (r_v 5) a_nil)) (v_r (r_f (f_tup (a_cons (r_f (f_str [116, 111, 108, 100])) (a_cons (r_f f_int) a_nil))))) (nomark _))))) (s_cons (s_ret (g_f f_bl)) s_nil) s_nil)
      (s_cons (s_ret (g_f (f_call (ok_lw_by_turns T) (hr.mono (by decide)) (by rfl) T.g_lw_by_turns T.f_lw_by_turns.kp T.b_lw_by_turns pass0 (a_cons (r_v 0) (a_cons (r_f (f_cold (f_lst (a_cons (r_f (f_bin opr_add op_addD (r_f f_int) (r_f (f_bin op_mod op_modD (r_f (f_call (ok_lw_mix T) (hr.mono (by decide)) (by rfl) T.g_lw_mix T.f_lw_mix.kp T.b_lw_mix pass0 (a_cons (r_v 1) (a_cons (r_f f_int) a_nil)))) (r_f f_int))))) (a_cons (r_f f_int) (a_cons (r_f f_int) a_nil)))))) a_nil))))) s_nil))))))))))
end
end LW

namespace LW
open PySem L2 PyProof.Rows LI
theorem law_true (ns : List Int) (hl : ns.length ≤ 63) (hb : ∀ z ∈ ns, Builtin.Int.intBits z ≤ 1048576) : ∃ ds', F_law [.scr ns] = some (.bl true, ds') := ⟨_, L_law ns (LW.law_t ns hl hb)⟩
theorem all_mk (LT : ∀ ns : List Int, ns.length ≤ 63 → (∀ z ∈ ns, Builtin.Int.intBits z ≤ 1048576) → ∃ ds', F_law [.scr ns] = some (.bl true, ds')) {l : PySem.W.OpenLaw} {w : World} {K : PySem.W.Frag} {h : Heap} {mg : Str → Option Value} {fa : Addr} (X : K.In h) (G : h.Ns mainGlobals mg) (hfa : mg "law" = some (.ref fa))
    {c_Reader c_Maker c_OutError c_NoSign c_NoName c_NoHand c_Twice c_Closed c_NoSize c_NoRoom c_NoRoll c_NoCell c_NoRow p_is_sign p_is_colour p_checked__X1 p_sign_item p_begins_mark p_mark_item p_Reader_init p_Reader_told p_Reader_take p_Reader_feed__X1 p_Reader_finish p_items_of__X1 p_checked_most__X1 p_checked_most p_Maker_init__X1 p_Maker_init p_Maker_open_letters p_Maker_make_plain p_Maker_tell_part p_Maker_put_sign p_Maker_put p_rows_of__X1 p_lw_cell p_lw_mix p_lw_parts p_lw_whole__X1 p_lw_whole p_lw_letters_right p_lw_parts_right p_lw_bad_most p_lw_word p_lw_asked p_lw_made p_lw_by_turns p_law p_NoSign_init NN_NoSign q_ENDS : Addr} {od_is_sign an_is_sign od_is_colour an_is_colour od_checked__X1 an_checked__X1 od_sign_item an_sign_item od_begins_mark an_begins_mark od_mark_item an_mark_item od_Reader_init an_Reader_init od_Reader_told an_Reader_told od_Reader_take an_Reader_take od_Reader_feed__X1 an_Reader_feed__X1 od_Reader_finish an_Reader_finish od_items_of__X1 an_items_of__X1 od_checked_most__X1 an_checked_most__X1 od_checked_most an_checked_most od_Maker_init__X1 an_Maker_init__X1 od_Maker_init an_Maker_init od_Maker_open_letters an_Maker_open_letters od_Maker_make_plain an_Maker_make_plain od_Maker_tell_part an_Maker_tell_part od_Maker_put_sign an_Maker_put_sign od_Maker_put an_Maker_put od_rows_of__X1 an_rows_of__X1 od_lw_cell an_lw_cell od_lw_mix an_lw_mix od_lw_parts an_lw_parts od_lw_whole__X1 an_lw_whole__X1 od_lw_whole an_lw_whole od_lw_letters_right an_lw_letters_right od_lw_parts_right an_lw_parts_right od_lw_bad_most an_lw_bad_most od_lw_word an_lw_word od_lw_asked an_lw_asked od_lw_made an_lw_made od_lw_by_turns an_lw_by_turns od_law an_law od_NoSign_init an_NoSign_init dd_NoSign : Option Addr} {sl_is_sign sl_is_colour sl_checked__X1 sl_sign_item sl_begins_mark sl_mark_item sl_Reader_init sl_Reader_told sl_Reader_take sl_Reader_feed__X1 sl_Reader_finish sl_items_of__X1 sl_checked_most__X1 sl_checked_most sl_Maker_init__X1 sl_Maker_init sl_Maker_open_letters sl_Maker_make_plain sl_Maker_tell_part sl_Maker_put_sign sl_Maker_put sl_rows_of__X1 sl_lw_cell sl_lw_mix sl_lw_parts sl_lw_whole__X1 sl_lw_whole sl_lw_letters_right sl_lw_parts_right sl_lw_bad_most sl_lw_word sl_lw_asked sl_lw_made sl_lw_by_turns sl_law sl_NoSign_init : Array (Option Value)} {oc_is_sign kV_is_sign dc_is_sign pm_is_sign cd_is_sign ct_is_sign oc_is_colour kV_is_colour dc_is_colour pm_is_colour cd_is_colour ct_is_colour oc_checked__X1 kV_checked__X1 dc_checked__X1 pm_checked__X1 cd_checked__X1 ct_checked__X1 oc_sign_item kV_sign_item dc_sign_item pm_sign_item cd_sign_item ct_sign_item oc_begins_mark kV_begins_mark dc_begins_mark pm_begins_mark cd_begins_mark ct_begins_mark oc_mark_item kV_mark_item dc_mark_item pm_mark_item cd_mark_item ct_mark_item oc_Reader_init kV_Reader_init dc_Reader_init pm_Reader_init cd_Reader_init ct_Reader_init oc_Reader_told kV_Reader_told dc_Reader_told pm_Reader_told cd_Reader_told ct_Reader_told oc_Reader_take kV_Reader_take dc_Reader_take pm_Reader_take cd_Reader_take ct_Reader_take oc_Reader_feed__X1 kV_Reader_feed__X1 dc_Reader_feed__X1 pm_Reader_feed__X1 cd_Reader_feed__X1 ct_Reader_feed__X1 oc_Reader_finish kV_Reader_finish dc_Reader_finish pm_Reader_finish cd_Reader_finish ct_Reader_finish oc_items_of__X1 kV_items_of__X1 dc_items_of__X1 pm_items_of__X1 cd_items_of__X1 ct_items_of__X1 oc_checked_most__X1 kV_checked_most__X1 dc_checked_most__X1 pm_checked_most__X1 cd_checked_most__X1 ct_checked_most__X1 oc_checked_most kV_checked_most dc_checked_most pm_checked_most cd_checked_most ct_checked_most oc_Maker_init__X1 kV_Maker_init__X1 dc_Maker_init__X1 pm_Maker_init__X1 cd_Maker_init__X1 ct_Maker_init__X1 oc_Maker_init kV_Maker_init dc_Maker_init pm_Maker_init cd_Maker_init ct_Maker_init oc_Maker_open_letters kV_Maker_open_letters dc_Maker_open_letters pm_Maker_open_letters cd_Maker_open_letters ct_Maker_open_letters oc_Maker_make_plain kV_Maker_make_plain dc_Maker_make_plain pm_Maker_make_plain cd_Maker_make_plain ct_Maker_make_plain oc_Maker_tell_part kV_Maker_tell_part dc_Maker_tell_part pm_Maker_tell_part cd_Maker_tell_part ct_Maker_tell_part oc_Maker_put_sign kV_Maker_put_sign dc_Maker_put_sign pm_Maker_put_sign cd_Maker_put_sign ct_Maker_put_sign oc_Maker_put kV_Maker_put dc_Maker_put pm_Maker_put cd_Maker_put ct_Maker_put oc_rows_of__X1 kV_rows_of__X1 dc_rows_of__X1 pm_rows_of__X1 cd_rows_of__X1 ct_rows_of__X1 oc_lw_cell kV_lw_cell dc_lw_cell pm_lw_cell cd_lw_cell ct_lw_cell oc_lw_mix kV_lw_mix dc_lw_mix pm_lw_mix cd_lw_mix ct_lw_mix oc_lw_parts kV_lw_parts dc_lw_parts pm_lw_parts cd_lw_parts ct_lw_parts oc_lw_whole__X1 kV_lw_whole__X1 dc_lw_whole__X1 pm_lw_whole__X1 cd_lw_whole__X1 ct_lw_whole__X1 oc_lw_whole kV_lw_whole dc_lw_whole pm_lw_whole cd_lw_whole ct_lw_whole oc_lw_letters_right kV_lw_letters_right dc_lw_letters_right pm_lw_letters_right cd_lw_letters_right ct_lw_letters_right oc_lw_parts_right kV_lw_parts_right dc_lw_parts_right pm_lw_parts_right cd_lw_parts_right ct_lw_parts_right oc_lw_bad_most kV_lw_bad_most dc_lw_bad_most pm_lw_bad_most cd_lw_bad_most ct_lw_bad_most oc_lw_word kV_lw_word dc_lw_word pm_lw_word cd_lw_word ct_lw_word oc_lw_asked kV_lw_asked dc_lw_asked pm_lw_asked cd_lw_asked ct_lw_asked oc_lw_made kV_lw_made dc_lw_made pm_lw_made cd_lw_made ct_lw_made oc_lw_by_turns kV_lw_by_turns dc_lw_by_turns pm_lw_by_turns cd_lw_by_turns ct_lw_by_turns oc_law kV_law dc_law pm_law cd_law ct_law oc_NoSign_init kV_NoSign_init dc_NoSign_init pm_NoSign_init cd_NoSign_init ct_NoSign_init : Value} {nm_NoSign qq_NoSign : Str} {bs_NoSign su_NoSign : List Value} {sn_NoSign : List Str} {ab_NoSign : Bool} {co_NoSign : Option Bool} {m0_NoSign m1_NoSign m2_NoSign m3_NoSign m5_NoSign : Option Value} {t_COLOURS t_CONTROLS t_FIRST t_LAST t_MORE t_MOST t_PLAIN t_WHOLE : Tok} {es_ENDS : Array DictEntry} {n_ENDS : Nat} 
    (gc_OutError : PySem.W.nsIn K mainGlobals "OutError" = some (some (.ref c_OutError)))
    (gc_NoSign : PySem.W.nsIn K mainGlobals "NoSign" = some (some (.ref c_NoSign)))
    (gc_NoName : PySem.W.nsIn K mainGlobals "NoName" = some (some (.ref c_NoName)))
    (gc_NoHand : PySem.W.nsIn K mainGlobals "NoHand" = some (some (.ref c_NoHand)))
    (gc_Twice : PySem.W.nsIn K mainGlobals "Twice" = some (some (.ref c_Twice)))
    (gc_Closed : PySem.W.nsIn K mainGlobals "Closed" = some (some (.ref c_Closed)))
    (gc_NoSize : PySem.W.nsIn K mainGlobals "NoSize" = some (some (.ref c_NoSize)))
    (gc_NoRoom : PySem.W.nsIn K mainGlobals "NoRoom" = some (some (.ref c_NoRoom)))
    (gc_NoRoll : PySem.W.nsIn K mainGlobals "NoRoll" = some (some (.ref c_NoRoll)))
    (gc_NoCell : PySem.W.nsIn K mainGlobals "NoCell" = some (some (.ref c_NoCell)))
    (gc_NoRow : PySem.W.nsIn K mainGlobals "NoRow" = some (some (.ref c_NoRow)))
    (x1_NoSign : PySem.W.isClsIn K c_NoSign = true)
    (x2_NoSign : PySem.W.findIn K (.ref c_NoSign) "__getattribute__" = some (some (.builtin "BaseException.__getattribute__")))
    (x3_NoSign : PySem.W.findIn K (.ref c_NoSign) "__getattr__" = some none)
    (x4_NoSign : PySem.W.subIn K (.ref c_NoSign) (.type "BaseException") = some true)
    (x5_NoSign : PySem.W.findIn K (.ref c_NoSign) "__class__" = some (some (.builtin "object.__class__")))
    (x6_NoSign : PySem.W.specialIn K (.builtin "object.__class__") "__get__" = some (some (.builtin "getset_descriptor.__get__")))
    (x7_NoSign : PySem.W.takesIn K (.builtin "object.__class__") = some true)
    (x8_NoSign : PySem.W.mroIn K c_NoSign (.type "object") = some true)
    (x9_NoSign : PySem.W.hasDictIn K c_NoSign = true)
    (ik_v_NoSign : PySem.W.kitOne K (.ref c_NoSign) (.type "ValueError") = some true)
    (ik_NoSign__Closed : PySem.W.kitOne K (.ref c_NoSign) (.ref c_Closed) = some false)
    (ik_NoSign__NoCell : PySem.W.kitOne K (.ref c_NoSign) (.ref c_NoCell) = some false)
    (ik_NoSign__NoHand : PySem.W.kitOne K (.ref c_NoSign) (.ref c_NoHand) = some false)
    (ik_NoSign__NoName : PySem.W.kitOne K (.ref c_NoSign) (.ref c_NoName) = some false)
    (ik_NoSign__NoRoll : PySem.W.kitOne K (.ref c_NoSign) (.ref c_NoRoll) = some false)
    (ik_NoSign__NoRoom : PySem.W.kitOne K (.ref c_NoSign) (.ref c_NoRoom) = some false)
    (ik_NoSign__NoRow : PySem.W.kitOne K (.ref c_NoSign) (.ref c_NoRow) = some false)
    (ik_NoSign__NoSign : PySem.W.kitOne K (.ref c_NoSign) (.ref c_NoSign) = some true)
    (ik_NoSign__NoSize : PySem.W.kitOne K (.ref c_NoSign) (.ref c_NoSize) = some false)
    (ik_NoSign__Twice : PySem.W.kitOne K (.ref c_NoSign) (.ref c_Twice) = some false)
    (xs_NoSign__OutError : PySem.W.subIn K (.ref c_NoSign) (.ref c_OutError) = some true)
    (x1_NoSize : PySem.W.isClsIn K c_NoSize = true)
    (x2_NoSize : PySem.W.findIn K (.ref c_NoSize) "__getattribute__" = some (some (.builtin "BaseException.__getattribute__")))
    (x3_NoSize : PySem.W.findIn K (.ref c_NoSize) "__getattr__" = some none)
    (x4_NoSize : PySem.W.subIn K (.ref c_NoSize) (.type "BaseException") = some true)
    (x5_NoSize : PySem.W.findIn K (.ref c_NoSize) "__class__" = some (some (.builtin "object.__class__")))
    (x6_NoSize : PySem.W.specialIn K (.builtin "object.__class__") "__get__" = some (some (.builtin "getset_descriptor.__get__")))
    (x7_NoSize : PySem.W.takesIn K (.builtin "object.__class__") = some true)
    (x8_NoSize : PySem.W.mroIn K c_NoSize (.type "object") = some true)
    (x9_NoSize : PySem.W.hasDictIn K c_NoSize = true)
    (ik_v_NoSize : PySem.W.kitOne K (.ref c_NoSize) (.type "ValueError") = some true)
    (ik_NoSize__Closed : PySem.W.kitOne K (.ref c_NoSize) (.ref c_Closed) = some false)
    (ik_NoSize__NoCell : PySem.W.kitOne K (.ref c_NoSize) (.ref c_NoCell) = some false)
    (ik_NoSize__NoHand : PySem.W.kitOne K (.ref c_NoSize) (.ref c_NoHand) = some false)
    (ik_NoSize__NoName : PySem.W.kitOne K (.ref c_NoSize) (.ref c_NoName) = some false)
    (ik_NoSize__NoRoll : PySem.W.kitOne K (.ref c_NoSize) (.ref c_NoRoll) = some false)
    (ik_NoSize__NoRoom : PySem.W.kitOne K (.ref c_NoSize) (.ref c_NoRoom) = some false)
    (ik_NoSize__NoRow : PySem.W.kitOne K (.ref c_NoSize) (.ref c_NoRow) = some false)
    (ik_NoSize__NoSign : PySem.W.kitOne K (.ref c_NoSize) (.ref c_NoSign) = some false)
    (ik_NoSize__NoSize : PySem.W.kitOne K (.ref c_NoSize) (.ref c_NoSize) = some true)
    (ik_NoSize__Twice : PySem.W.kitOne K (.ref c_NoSize) (.ref c_Twice) = some false)
    (xs_NoSize__OutError : PySem.W.subIn K (.ref c_NoSize) (.ref c_OutError) = some true)
    (xf_at__NoSign : PySem.W.findIn K (.ref c_NoSign) "at" = some none)
    (xf_at__NoSize : PySem.W.findIn K (.ref c_NoSize) "at" = some none)
    (a1_NoSign_init : PySem.W.findIn K (.ref c_NoSign) "__init__" = some (some (.ref p_NoSign_init)))
    (a5_NoSign_init : PySem.W.typeIn K (.ref p_NoSign_init) = some (.type "function"))
    (a2_NoSign_init : K.lookup p_NoSign_init = some ⟨oc_NoSign_init, od_NoSign_init, .func (PySem.W.fnOf "__init__" "NoSign.__init__" (defArgs s_NoSign_init) (defBody s_NoSign_init) (defScope s_NoSign_init) .none kV_NoSign_init dc_NoSign_init pm_NoSign_init an_NoSign_init cd_NoSign_init ct_NoSign_init), sl_NoSign_init⟩)
    (a3_NoSign_init : PySem.W.codeIn K cd_NoSign_init "NoSign.__init__" = true)
    (a4_NoSign_init : PySem.W.keepIn K (.ref p_NoSign_init) = true)
    (xl_NoSign : K.lookup c_NoSign = some (excClassObj nm_NoSign qq_NoSign c_NoSign NN_NoSign bs_NoSign [.ref c_OutError, .type "ValueError", .type "Exception", .type "BaseException", .type "object"] true sn_NoSign su_NoSign ab_NoSign co_NoSign dd_NoSign m0_NoSign m1_NoSign m2_NoSign m3_NoSign m5_NoSign "ValueError.__new__"))
    (xw_NoSign : PySem.W.findIn K (.ref c_NoSign) "__setattr__" = some (some (.builtin "object.__setattr__")))
    (xt_NoSign : PySem.W.typeIn K (.ref c_NoSign) = some (.type "type"))
    (xq_NoSign : PySem.W.keepIn K (.ref c_NoSign) = true)
    (xn_NoSign : PySem.W.findIn K (.ref c_NoSign) "at" = some none)
    (rd_OutError : PySem.W.readsIn K c_OutError (.type "type") = true)
    (ga_OutError : PySem.W.specialIn K (.ref c_OutError) "__getattribute__" = some (some (.builtin "type.__getattribute__")))
    (bi_OutError : PySem.W.findCls K (.ref c_OutError) (.type "type") "__init__" = some (.val (.builtin "ValueError.__init__")))
    (xm1_OutError : PySem.W.subIn K (.ref c_OutError) (.type "BaseException") = some true)
    (xm2_OutError : PySem.W.hasDictIn K c_OutError = true)
    (xm3_OutError : PySem.W.typeIn K (.ref c_OutError) = some (.type "type"))
    (xp_NoSize : PySem.W.excIn K c_NoSize [.type "ValueError", .type "Exception", .type "BaseException", .type "object"] "ValueError.__new__" = true)
    (xq_NoSize : PySem.W.keepIn K (.ref c_NoSize) = true)
    (xt_NoSize : PySem.W.typeIn K (.ref c_NoSize) = some (.type "type"))
    (gc_Reader : PySem.W.nsIn K mainGlobals "Reader" = some (some (.ref c_Reader)))
    (gc_Maker : PySem.W.nsIn K mainGlobals "Maker" = some (some (.ref c_Maker)))
    (a1_is_sign : PySem.W.nsIn K mainGlobals "is_sign" = some (some (.ref p_is_sign)))
    (a2_is_sign : K.lookup p_is_sign = some ⟨oc_is_sign, od_is_sign, .func (PySem.W.fnOf "is_sign" "is_sign" (defArgs s_is_sign) (defBody s_is_sign) (defScope s_is_sign) .none kV_is_sign dc_is_sign pm_is_sign an_is_sign cd_is_sign ct_is_sign), sl_is_sign⟩)
    (a3_is_sign : PySem.W.codeIn K cd_is_sign "is_sign" = true)
    (a4_is_sign : PySem.W.keepIn K (.ref p_is_sign) = true)
    (a1_is_colour : PySem.W.nsIn K mainGlobals "is_colour" = some (some (.ref p_is_colour)))
    (a2_is_colour : K.lookup p_is_colour = some ⟨oc_is_colour, od_is_colour, .func (PySem.W.fnOf "is_colour" "is_colour" (defArgs s_is_colour) (defBody s_is_colour) (defScope s_is_colour) .none kV_is_colour dc_is_colour pm_is_colour an_is_colour cd_is_colour ct_is_colour), sl_is_colour⟩)
    (a3_is_colour : PySem.W.codeIn K cd_is_colour "is_colour" = true)
    (a4_is_colour : PySem.W.keepIn K (.ref p_is_colour) = true)
    (a1_checked__X1 : PySem.W.nsIn K mainGlobals "checked" = some (some (.ref p_checked__X1)))
    (a2_checked__X1 : K.lookup p_checked__X1 = some ⟨oc_checked__X1, od_checked__X1, .func (PySem.W.fnOf "checked" "checked" (defArgs s_checked__X1) (defBody s_checked__X1) (defScope s_checked__X1) .none kV_checked__X1 dc_checked__X1 pm_checked__X1 an_checked__X1 cd_checked__X1 ct_checked__X1), sl_checked__X1⟩)
    (a3_checked__X1 : PySem.W.codeIn K cd_checked__X1 "checked" = true)
    (a4_checked__X1 : PySem.W.keepIn K (.ref p_checked__X1) = true)
    (a1_sign_item : PySem.W.nsIn K mainGlobals "sign_item" = some (some (.ref p_sign_item)))
    (a2_sign_item : K.lookup p_sign_item = some ⟨oc_sign_item, od_sign_item, .func (PySem.W.fnOf "sign_item" "sign_item" (defArgs s_sign_item) (defBody s_sign_item) (defScope s_sign_item) .none kV_sign_item dc_sign_item pm_sign_item an_sign_item cd_sign_item ct_sign_item), sl_sign_item⟩)
    (a3_sign_item : PySem.W.codeIn K cd_sign_item "sign_item" = true)
    (a4_sign_item : PySem.W.keepIn K (.ref p_sign_item) = true)
    (a1_begins_mark : PySem.W.nsIn K mainGlobals "begins_mark" = some (some (.ref p_begins_mark)))
    (a2_begins_mark : K.lookup p_begins_mark = some ⟨oc_begins_mark, od_begins_mark, .func (PySem.W.fnOf "begins_mark" "begins_mark" (defArgs s_begins_mark) (defBody s_begins_mark) (defScope s_begins_mark) .none kV_begins_mark dc_begins_mark pm_begins_mark an_begins_mark cd_begins_mark ct_begins_mark), sl_begins_mark⟩)
    (a3_begins_mark : PySem.W.codeIn K cd_begins_mark "begins_mark" = true)
    (a4_begins_mark : PySem.W.keepIn K (.ref p_begins_mark) = true)
    (a1_mark_item : PySem.W.nsIn K mainGlobals "mark_item" = some (some (.ref p_mark_item)))
    (a2_mark_item : K.lookup p_mark_item = some ⟨oc_mark_item, od_mark_item, .func (PySem.W.fnOf "mark_item" "mark_item" (defArgs s_mark_item) (defBody s_mark_item) (defScope s_mark_item) .none kV_mark_item dc_mark_item pm_mark_item an_mark_item cd_mark_item ct_mark_item), sl_mark_item⟩)
    (a3_mark_item : PySem.W.codeIn K cd_mark_item "mark_item" = true)
    (a4_mark_item : PySem.W.keepIn K (.ref p_mark_item) = true)
    (a1_Reader_init : PySem.W.findIn K (.ref c_Reader) "__init__" = some (some (.ref p_Reader_init)))
    (a5_Reader_init : PySem.W.isFn K (.ref p_Reader_init) = true)
    (a2_Reader_init : K.lookup p_Reader_init = some ⟨oc_Reader_init, od_Reader_init, .func (PySem.W.fnOf "__init__" "Reader.__init__" (defArgs s_Reader_init) (defBody s_Reader_init) (defScope s_Reader_init) .none kV_Reader_init dc_Reader_init pm_Reader_init an_Reader_init cd_Reader_init ct_Reader_init), sl_Reader_init⟩)
    (a3_Reader_init : PySem.W.codeIn K cd_Reader_init "Reader.__init__" = true)
    (a4_Reader_init : PySem.W.keepIn K (.ref p_Reader_init) = true)
    (a1_Reader_told : PySem.W.findIn K (.ref c_Reader) "told" = some (some (.ref p_Reader_told)))
    (a5_Reader_told : PySem.W.isFn K (.ref p_Reader_told) = true)
    (a2_Reader_told : K.lookup p_Reader_told = some ⟨oc_Reader_told, od_Reader_told, .func (PySem.W.fnOf "told" "Reader.told" (defArgs s_Reader_told) (defBody s_Reader_told) (defScope s_Reader_told) .none kV_Reader_told dc_Reader_told pm_Reader_told an_Reader_told cd_Reader_told ct_Reader_told), sl_Reader_told⟩)
    (a3_Reader_told : PySem.W.codeIn K cd_Reader_told "Reader.told" = true)
    (a4_Reader_told : PySem.W.keepIn K (.ref p_Reader_told) = true)
    (a1_Reader_take : PySem.W.findIn K (.ref c_Reader) "take" = some (some (.ref p_Reader_take)))
    (a5_Reader_take : PySem.W.isFn K (.ref p_Reader_take) = true)
    (a2_Reader_take : K.lookup p_Reader_take = some ⟨oc_Reader_take, od_Reader_take, .func (PySem.W.fnOf "take" "Reader.take" (defArgs s_Reader_take) (defBody s_Reader_take) (defScope s_Reader_take) .none kV_Reader_take dc_Reader_take pm_Reader_take an_Reader_take cd_Reader_take ct_Reader_take), sl_Reader_take⟩)
    (a3_Reader_take : PySem.W.codeIn K cd_Reader_take "Reader.take" = true)
    (a4_Reader_take : PySem.W.keepIn K (.ref p_Reader_take) = true)
    (a1_Reader_feed__X1 : PySem.W.findIn K (.ref c_Reader) "feed" = some (some (.ref p_Reader_feed__X1)))
    (a5_Reader_feed__X1 : PySem.W.isFn K (.ref p_Reader_feed__X1) = true)
    (a2_Reader_feed__X1 : K.lookup p_Reader_feed__X1 = some ⟨oc_Reader_feed__X1, od_Reader_feed__X1, .func (PySem.W.fnOf "feed" "Reader.feed" (defArgs s_Reader_feed__X1) (defBody s_Reader_feed__X1) (defScope s_Reader_feed__X1) .none kV_Reader_feed__X1 dc_Reader_feed__X1 pm_Reader_feed__X1 an_Reader_feed__X1 cd_Reader_feed__X1 ct_Reader_feed__X1), sl_Reader_feed__X1⟩)
    (a3_Reader_feed__X1 : PySem.W.codeIn K cd_Reader_feed__X1 "Reader.feed" = true)
    (a4_Reader_feed__X1 : PySem.W.keepIn K (.ref p_Reader_feed__X1) = true)
    (a1_Reader_finish : PySem.W.findIn K (.ref c_Reader) "finish" = some (some (.ref p_Reader_finish)))
    (a5_Reader_finish : PySem.W.isFn K (.ref p_Reader_finish) = true)
    (a2_Reader_finish : K.lookup p_Reader_finish = some ⟨oc_Reader_finish, od_Reader_finish, .func (PySem.W.fnOf "finish" "Reader.finish" (defArgs s_Reader_finish) (defBody s_Reader_finish) (defScope s_Reader_finish) .none kV_Reader_finish dc_Reader_finish pm_Reader_finish an_Reader_finish cd_Reader_finish ct_Reader_finish), sl_Reader_finish⟩)
    (a3_Reader_finish : PySem.W.codeIn K cd_Reader_finish "Reader.finish" = true)
    (a4_Reader_finish : PySem.W.keepIn K (.ref p_Reader_finish) = true)
    (a1_items_of__X1 : PySem.W.nsIn K mainGlobals "items_of" = some (some (.ref p_items_of__X1)))
    (a2_items_of__X1 : K.lookup p_items_of__X1 = some ⟨oc_items_of__X1, od_items_of__X1, .func (PySem.W.fnOf "items_of" "items_of" (defArgs s_items_of__X1) (defBody s_items_of__X1) (defScope s_items_of__X1) .none kV_items_of__X1 dc_items_of__X1 pm_items_of__X1 an_items_of__X1 cd_items_of__X1 ct_items_of__X1), sl_items_of__X1⟩)
    (a3_items_of__X1 : PySem.W.codeIn K cd_items_of__X1 "items_of" = true)
    (a4_items_of__X1 : PySem.W.keepIn K (.ref p_items_of__X1) = true)
    (a1_checked_most__X1 : PySem.W.nsIn K mainGlobals "checked_most" = some (some (.ref p_checked_most__X1)))
    (a2_checked_most__X1 : K.lookup p_checked_most__X1 = some ⟨oc_checked_most__X1, od_checked_most__X1, .func (PySem.W.fnOf "checked_most" "checked_most" (defArgs s_checked_most__X1) (defBody s_checked_most__X1) (defScope s_checked_most__X1) .none kV_checked_most__X1 dc_checked_most__X1 pm_checked_most__X1 an_checked_most__X1 cd_checked_most__X1 ct_checked_most__X1), sl_checked_most__X1⟩)
    (a3_checked_most__X1 : PySem.W.codeIn K cd_checked_most__X1 "checked_most" = true)
    (a4_checked_most__X1 : PySem.W.keepIn K (.ref p_checked_most__X1) = true)
    (a1_checked_most : PySem.W.nsIn K mainGlobals "checked_most" = some (some (.ref p_checked_most)))
    (a2_checked_most : K.lookup p_checked_most = some ⟨oc_checked_most, od_checked_most, .func (PySem.W.fnOf "checked_most" "checked_most" (defArgs s_checked_most) (defBody s_checked_most) (defScope s_checked_most) .none kV_checked_most dc_checked_most pm_checked_most an_checked_most cd_checked_most ct_checked_most), sl_checked_most⟩)
    (a3_checked_most : PySem.W.codeIn K cd_checked_most "checked_most" = true)
    (a4_checked_most : PySem.W.keepIn K (.ref p_checked_most) = true)
    (a1_Maker_init__X1 : PySem.W.findIn K (.ref c_Maker) "__init__" = some (some (.ref p_Maker_init__X1)))
    (a5_Maker_init__X1 : PySem.W.isFn K (.ref p_Maker_init__X1) = true)
    (a2_Maker_init__X1 : K.lookup p_Maker_init__X1 = some ⟨oc_Maker_init__X1, od_Maker_init__X1, .func (PySem.W.fnOf "__init__" "Maker.__init__" (defArgs s_Maker_init__X1) (defBody s_Maker_init__X1) (defScope s_Maker_init__X1) .none kV_Maker_init__X1 dc_Maker_init__X1 pm_Maker_init__X1 an_Maker_init__X1 cd_Maker_init__X1 ct_Maker_init__X1), sl_Maker_init__X1⟩)
    (a3_Maker_init__X1 : PySem.W.codeIn K cd_Maker_init__X1 "Maker.__init__" = true)
    (a4_Maker_init__X1 : PySem.W.keepIn K (.ref p_Maker_init__X1) = true)
    (a1_Maker_init : PySem.W.findIn K (.ref c_Maker) "__init__" = some (some (.ref p_Maker_init)))
    (a5_Maker_init : PySem.W.isFn K (.ref p_Maker_init) = true)
    (a2_Maker_init : K.lookup p_Maker_init = some ⟨oc_Maker_init, od_Maker_init, .func (PySem.W.fnOf "__init__" "Maker.__init__" (defArgs s_Maker_init) (defBody s_Maker_init) (defScope s_Maker_init) .none kV_Maker_init dc_Maker_init pm_Maker_init an_Maker_init cd_Maker_init ct_Maker_init), sl_Maker_init⟩)
    (a3_Maker_init : PySem.W.codeIn K cd_Maker_init "Maker.__init__" = true)
    (a4_Maker_init : PySem.W.keepIn K (.ref p_Maker_init) = true)
    (a1_Maker_open_letters : PySem.W.findIn K (.ref c_Maker) "open_letters" = some (some (.ref p_Maker_open_letters)))
    (a5_Maker_open_letters : PySem.W.isFn K (.ref p_Maker_open_letters) = true)
    (a2_Maker_open_letters : K.lookup p_Maker_open_letters = some ⟨oc_Maker_open_letters, od_Maker_open_letters, .func (PySem.W.fnOf "open_letters" "Maker.open_letters" (defArgs s_Maker_open_letters) (defBody s_Maker_open_letters) (defScope s_Maker_open_letters) .none kV_Maker_open_letters dc_Maker_open_letters pm_Maker_open_letters an_Maker_open_letters cd_Maker_open_letters ct_Maker_open_letters), sl_Maker_open_letters⟩)
    (a3_Maker_open_letters : PySem.W.codeIn K cd_Maker_open_letters "Maker.open_letters" = true)
    (a4_Maker_open_letters : PySem.W.keepIn K (.ref p_Maker_open_letters) = true)
    (a1_Maker_make_plain : PySem.W.findIn K (.ref c_Maker) "make_plain" = some (some (.ref p_Maker_make_plain)))
    (a5_Maker_make_plain : PySem.W.isFn K (.ref p_Maker_make_plain) = true)
    (a2_Maker_make_plain : K.lookup p_Maker_make_plain = some ⟨oc_Maker_make_plain, od_Maker_make_plain, .func (PySem.W.fnOf "make_plain" "Maker.make_plain" (defArgs s_Maker_make_plain) (defBody s_Maker_make_plain) (defScope s_Maker_make_plain) .none kV_Maker_make_plain dc_Maker_make_plain pm_Maker_make_plain an_Maker_make_plain cd_Maker_make_plain ct_Maker_make_plain), sl_Maker_make_plain⟩)
    (a3_Maker_make_plain : PySem.W.codeIn K cd_Maker_make_plain "Maker.make_plain" = true)
    (a4_Maker_make_plain : PySem.W.keepIn K (.ref p_Maker_make_plain) = true)
    (a1_Maker_tell_part : PySem.W.findIn K (.ref c_Maker) "tell_part" = some (some (.ref p_Maker_tell_part)))
    (a5_Maker_tell_part : PySem.W.isFn K (.ref p_Maker_tell_part) = true)
    (a2_Maker_tell_part : K.lookup p_Maker_tell_part = some ⟨oc_Maker_tell_part, od_Maker_tell_part, .func (PySem.W.fnOf "tell_part" "Maker.tell_part" (defArgs s_Maker_tell_part) (defBody s_Maker_tell_part) (defScope s_Maker_tell_part) .none kV_Maker_tell_part dc_Maker_tell_part pm_Maker_tell_part an_Maker_tell_part cd_Maker_tell_part ct_Maker_tell_part), sl_Maker_tell_part⟩)
    (a3_Maker_tell_part : PySem.W.codeIn K cd_Maker_tell_part "Maker.tell_part" = true)
    (a4_Maker_tell_part : PySem.W.keepIn K (.ref p_Maker_tell_part) = true)
    (a1_Maker_put_sign : PySem.W.findIn K (.ref c_Maker) "put_sign" = some (some (.ref p_Maker_put_sign)))
    (a5_Maker_put_sign : PySem.W.isFn K (.ref p_Maker_put_sign) = true)
    (a2_Maker_put_sign : K.lookup p_Maker_put_sign = some ⟨oc_Maker_put_sign, od_Maker_put_sign, .func (PySem.W.fnOf "put_sign" "Maker.put_sign" (defArgs s_Maker_put_sign) (defBody s_Maker_put_sign) (defScope s_Maker_put_sign) .none kV_Maker_put_sign dc_Maker_put_sign pm_Maker_put_sign an_Maker_put_sign cd_Maker_put_sign ct_Maker_put_sign), sl_Maker_put_sign⟩)
    (a3_Maker_put_sign : PySem.W.codeIn K cd_Maker_put_sign "Maker.put_sign" = true)
    (a4_Maker_put_sign : PySem.W.keepIn K (.ref p_Maker_put_sign) = true)
    (a1_Maker_put : PySem.W.findIn K (.ref c_Maker) "put" = some (some (.ref p_Maker_put)))
    (a5_Maker_put : PySem.W.isFn K (.ref p_Maker_put) = true)
    (a2_Maker_put : K.lookup p_Maker_put = some ⟨oc_Maker_put, od_Maker_put, .func (PySem.W.fnOf "put" "Maker.put" (defArgs s_Maker_put) (defBody s_Maker_put) (defScope s_Maker_put) .none kV_Maker_put dc_Maker_put pm_Maker_put an_Maker_put cd_Maker_put ct_Maker_put), sl_Maker_put⟩)
    (a3_Maker_put : PySem.W.codeIn K cd_Maker_put "Maker.put" = true)
    (a4_Maker_put : PySem.W.keepIn K (.ref p_Maker_put) = true)
    (a1_rows_of__X1 : PySem.W.nsIn K mainGlobals "rows_of" = some (some (.ref p_rows_of__X1)))
    (a2_rows_of__X1 : K.lookup p_rows_of__X1 = some ⟨oc_rows_of__X1, od_rows_of__X1, .func (PySem.W.fnOf "rows_of" "rows_of" (defArgs s_rows_of__X1) (defBody s_rows_of__X1) (defScope s_rows_of__X1) .none kV_rows_of__X1 dc_rows_of__X1 pm_rows_of__X1 an_rows_of__X1 cd_rows_of__X1 ct_rows_of__X1), sl_rows_of__X1⟩)
    (a3_rows_of__X1 : PySem.W.codeIn K cd_rows_of__X1 "rows_of" = true)
    (a4_rows_of__X1 : PySem.W.keepIn K (.ref p_rows_of__X1) = true)
    (a1_lw_cell : PySem.W.nsIn K mainGlobals "_law_cell" = some (some (.ref p_lw_cell)))
    (a2_lw_cell : K.lookup p_lw_cell = some ⟨oc_lw_cell, od_lw_cell, .func (PySem.W.fnOf "_law_cell" "_law_cell" (defArgs s_lw_cell) (defBody s_lw_cell) (defScope s_lw_cell) .none kV_lw_cell dc_lw_cell pm_lw_cell an_lw_cell cd_lw_cell ct_lw_cell), sl_lw_cell⟩)
    (a3_lw_cell : PySem.W.codeIn K cd_lw_cell "_law_cell" = true)
    (a4_lw_cell : PySem.W.keepIn K (.ref p_lw_cell) = true)
    (a1_lw_mix : PySem.W.nsIn K mainGlobals "_law_mix" = some (some (.ref p_lw_mix)))
    (a2_lw_mix : K.lookup p_lw_mix = some ⟨oc_lw_mix, od_lw_mix, .func (PySem.W.fnOf "_law_mix" "_law_mix" (defArgs s_lw_mix) (defBody s_lw_mix) (defScope s_lw_mix) .none kV_lw_mix dc_lw_mix pm_lw_mix an_lw_mix cd_lw_mix ct_lw_mix), sl_lw_mix⟩)
    (a3_lw_mix : PySem.W.codeIn K cd_lw_mix "_law_mix" = true)
    (a4_lw_mix : PySem.W.keepIn K (.ref p_lw_mix) = true)
    (a1_lw_parts : PySem.W.nsIn K mainGlobals "_law_parts" = some (some (.ref p_lw_parts)))
    (a2_lw_parts : K.lookup p_lw_parts = some ⟨oc_lw_parts, od_lw_parts, .func (PySem.W.fnOf "_law_parts" "_law_parts" (defArgs s_lw_parts) (defBody s_lw_parts) (defScope s_lw_parts) .none kV_lw_parts dc_lw_parts pm_lw_parts an_lw_parts cd_lw_parts ct_lw_parts), sl_lw_parts⟩)
    (a3_lw_parts : PySem.W.codeIn K cd_lw_parts "_law_parts" = true)
    (a4_lw_parts : PySem.W.keepIn K (.ref p_lw_parts) = true)
    (a1_lw_whole__X1 : PySem.W.nsIn K mainGlobals "_law_whole" = some (some (.ref p_lw_whole__X1)))
    (a2_lw_whole__X1 : K.lookup p_lw_whole__X1 = some ⟨oc_lw_whole__X1, od_lw_whole__X1, .func (PySem.W.fnOf "_law_whole" "_law_whole" (defArgs s_lw_whole__X1) (defBody s_lw_whole__X1) (defScope s_lw_whole__X1) .none kV_lw_whole__X1 dc_lw_whole__X1 pm_lw_whole__X1 an_lw_whole__X1 cd_lw_whole__X1 ct_lw_whole__X1), sl_lw_whole__X1⟩)
    (a3_lw_whole__X1 : PySem.W.codeIn K cd_lw_whole__X1 "_law_whole" = true)
    (a4_lw_whole__X1 : PySem.W.keepIn K (.ref p_lw_whole__X1) = true)
    (a1_lw_whole : PySem.W.nsIn K mainGlobals "_law_whole" = some (some (.ref p_lw_whole)))
    (a2_lw_whole : K.lookup p_lw_whole = some ⟨oc_lw_whole, od_lw_whole, .func (PySem.W.fnOf "_law_whole" "_law_whole" (defArgs s_lw_whole) (defBody s_lw_whole) (defScope s_lw_whole) .none kV_lw_whole dc_lw_whole pm_lw_whole an_lw_whole cd_lw_whole ct_lw_whole), sl_lw_whole⟩)
    (a3_lw_whole : PySem.W.codeIn K cd_lw_whole "_law_whole" = true)
    (a4_lw_whole : PySem.W.keepIn K (.ref p_lw_whole) = true)
    (a1_lw_letters_right : PySem.W.nsIn K mainGlobals "_law_letters_right" = some (some (.ref p_lw_letters_right)))
    (a2_lw_letters_right : K.lookup p_lw_letters_right = some ⟨oc_lw_letters_right, od_lw_letters_right, .func (PySem.W.fnOf "_law_letters_right" "_law_letters_right" (defArgs s_lw_letters_right) (defBody s_lw_letters_right) (defScope s_lw_letters_right) .none kV_lw_letters_right dc_lw_letters_right pm_lw_letters_right an_lw_letters_right cd_lw_letters_right ct_lw_letters_right), sl_lw_letters_right⟩)
    (a3_lw_letters_right : PySem.W.codeIn K cd_lw_letters_right "_law_letters_right" = true)
    (a4_lw_letters_right : PySem.W.keepIn K (.ref p_lw_letters_right) = true)
    (a1_lw_parts_right : PySem.W.nsIn K mainGlobals "_law_parts_right" = some (some (.ref p_lw_parts_right)))
    (a2_lw_parts_right : K.lookup p_lw_parts_right = some ⟨oc_lw_parts_right, od_lw_parts_right, .func (PySem.W.fnOf "_law_parts_right" "_law_parts_right" (defArgs s_lw_parts_right) (defBody s_lw_parts_right) (defScope s_lw_parts_right) .none kV_lw_parts_right dc_lw_parts_right pm_lw_parts_right an_lw_parts_right cd_lw_parts_right ct_lw_parts_right), sl_lw_parts_right⟩)
    (a3_lw_parts_right : PySem.W.codeIn K cd_lw_parts_right "_law_parts_right" = true)
    (a4_lw_parts_right : PySem.W.keepIn K (.ref p_lw_parts_right) = true)
    (a1_lw_bad_most : PySem.W.nsIn K mainGlobals "_law_bad_most" = some (some (.ref p_lw_bad_most)))
    (a2_lw_bad_most : K.lookup p_lw_bad_most = some ⟨oc_lw_bad_most, od_lw_bad_most, .func (PySem.W.fnOf "_law_bad_most" "_law_bad_most" (defArgs s_lw_bad_most) (defBody s_lw_bad_most) (defScope s_lw_bad_most) .none kV_lw_bad_most dc_lw_bad_most pm_lw_bad_most an_lw_bad_most cd_lw_bad_most ct_lw_bad_most), sl_lw_bad_most⟩)
    (a3_lw_bad_most : PySem.W.codeIn K cd_lw_bad_most "_law_bad_most" = true)
    (a4_lw_bad_most : PySem.W.keepIn K (.ref p_lw_bad_most) = true)
    (a1_lw_word : PySem.W.nsIn K mainGlobals "_law_word" = some (some (.ref p_lw_word)))
    (a2_lw_word : K.lookup p_lw_word = some ⟨oc_lw_word, od_lw_word, .func (PySem.W.fnOf "_law_word" "_law_word" (defArgs s_lw_word) (defBody s_lw_word) (defScope s_lw_word) .none kV_lw_word dc_lw_word pm_lw_word an_lw_word cd_lw_word ct_lw_word), sl_lw_word⟩)
    (a3_lw_word : PySem.W.codeIn K cd_lw_word "_law_word" = true)
    (a4_lw_word : PySem.W.keepIn K (.ref p_lw_word) = true)
    (a1_lw_asked : PySem.W.nsIn K mainGlobals "_law_asked" = some (some (.ref p_lw_asked)))
    (a2_lw_asked : K.lookup p_lw_asked = some ⟨oc_lw_asked, od_lw_asked, .func (PySem.W.fnOf "_law_asked" "_law_asked" (defArgs s_lw_asked) (defBody s_lw_asked) (defScope s_lw_asked) .none kV_lw_asked dc_lw_asked pm_lw_asked an_lw_asked cd_lw_asked ct_lw_asked), sl_lw_asked⟩)
    (a3_lw_asked : PySem.W.codeIn K cd_lw_asked "_law_asked" = true)
    (a4_lw_asked : PySem.W.keepIn K (.ref p_lw_asked) = true)
    (a1_lw_made : PySem.W.nsIn K mainGlobals "_law_made" = some (some (.ref p_lw_made)))
    (a2_lw_made : K.lookup p_lw_made = some ⟨oc_lw_made, od_lw_made, .func (PySem.W.fnOf "_law_made" "_law_made" (defArgs s_lw_made) (defBody s_lw_made) (defScope s_lw_made) .none kV_lw_made dc_lw_made pm_lw_made an_lw_made cd_lw_made ct_lw_made), sl_lw_made⟩)
    (a3_lw_made : PySem.W.codeIn K cd_lw_made "_law_made" = true)
    (a4_lw_made : PySem.W.keepIn K (.ref p_lw_made) = true)
    (a1_lw_by_turns : PySem.W.nsIn K mainGlobals "_law_by_turns" = some (some (.ref p_lw_by_turns)))
    (a2_lw_by_turns : K.lookup p_lw_by_turns = some ⟨oc_lw_by_turns, od_lw_by_turns, .func (PySem.W.fnOf "_law_by_turns" "_law_by_turns" (defArgs s_lw_by_turns) (defBody s_lw_by_turns) (defScope s_lw_by_turns) .none kV_lw_by_turns dc_lw_by_turns pm_lw_by_turns an_lw_by_turns cd_lw_by_turns ct_lw_by_turns), sl_lw_by_turns⟩)
    (a3_lw_by_turns : PySem.W.codeIn K cd_lw_by_turns "_law_by_turns" = true)
    (a4_lw_by_turns : PySem.W.keepIn K (.ref p_lw_by_turns) = true)
    (a1_law : PySem.W.nsIn K mainGlobals "law" = some (some (.ref p_law)))
    (a2_law : K.lookup p_law = some ⟨oc_law, od_law, .func (PySem.W.fnOf "law" "law" (defArgs s_law) (defBody s_law) (defScope s_law) .none kV_law dc_law pm_law an_law cd_law ct_law), sl_law⟩)
    (a3_law : PySem.W.codeIn K cd_law "law" = true)
    (a4_law : PySem.W.keepIn K (.ref p_law) = true)
    (z_ValueError : PySem.W.nsIn K mainGlobals "ValueError" = some none)
    (z_bool : PySem.W.nsIn K mainGlobals "bool" = some none)
    (z_enumerate : PySem.W.nsIn K mainGlobals "enumerate" = some none)
    (z_int : PySem.W.nsIn K mainGlobals "int" = some none)
    (z_isinstance : PySem.W.nsIn K mainGlobals "isinstance" = some none)
    (z_len : PySem.W.nsIn K mainGlobals "len" = some none)
    (z_list : PySem.W.nsIn K mainGlobals "list" = some none)
    (z_range : PySem.W.nsIn K mainGlobals "range" = some none)
    (z_str : PySem.W.nsIn K mainGlobals "str" = some none)
    (z_tuple : PySem.W.nsIn K mainGlobals "tuple" = some none)
    (z_zip : PySem.W.nsIn K mainGlobals "zip" = some none)
    (k_COLOURS : PySem.W.nsIn K mainGlobals "COLOURS" = some (some (.str "abcdefgh." t_COLOURS)))
    (k_CONTROLS : PySem.W.nsIn K mainGlobals "CONTROLS" = some (some (.str "\n\t" t_CONTROLS)))
    (k1_ENDS : PySem.W.nsIn K mainGlobals "ENDS" = some (some (.ref q_ENDS)))
    (k2_ENDS : K.lookup q_ENDS = some ⟨.type "dict", none, .dict es_ENDS n_ENDS, #[]⟩)
    (k4_ENDS : (q_ENDS == sysModules) = false)
    (k3_ENDS : KdVals w.params es_ENDS.toList kv_ENDS)
    (k_FIRST : PySem.W.nsIn K mainGlobals "FIRST" = some (some (.str " " t_FIRST)))
    (k_LAST : PySem.W.nsIn K mainGlobals "LAST" = some (some (.str "}" t_LAST)))
    (k_MORE : PySem.W.nsIn K mainGlobals "MORE" = some (some (.str "more" t_MORE)))
    (k_MOST : PySem.W.nsIn K mainGlobals "MOST" = some (some (.int 200 t_MOST)))
    (k_PLAIN : PySem.W.nsIn K mainGlobals "PLAIN" = some (some (.str "." t_PLAIN)))
    (k_WHOLE : PySem.W.nsIn K mainGlobals "WHOLE" = some (some (.str "whole" t_WHOLE)))
    (pg_Reader : PySem.W.plainGet K c_Reader Str.empty = true)
    (hd_Reader : PySem.W.hasDictIn K c_Reader = true)
    (po_Reader : PySem.W.plainOver K c_Reader = true)
    (sa_Reader : PySem.W.findIn K (.ref c_Reader) "__setattr__" = some (some (.builtin "object.__setattr__")))
    (pg_Maker : PySem.W.plainGet K c_Maker Str.empty = true)
    (hd_Maker : PySem.W.hasDictIn K c_Maker = true)
    (po_Maker : PySem.W.plainOver K c_Maker = true)
    (sa_Maker : PySem.W.findIn K (.ref c_Maker) "__setattr__" = some (some (.builtin "object.__setattr__")))
    (na_Reader_kept : PySem.W.findIn K (.ref c_Reader) "kept" = some none)
    (na_Reader_place : PySem.W.findIn K (.ref c_Reader) "place" = some none)
    (mi_Reader : PySem.W.makesIn K c_Reader = true)
    (kc_Reader : PySem.W.keepIn K (.ref c_Reader) = true)
    (na_Maker_most : PySem.W.findIn K (.ref c_Maker) "most" = some none)
    (na_Maker_row : PySem.W.findIn K (.ref c_Maker) "row" = some none)
    (na_Maker_ink : PySem.W.findIn K (.ref c_Maker) "ink" = some none)
    (na_Maker_ground : PySem.W.findIn K (.ref c_Maker) "ground" = some none)
    (na_Maker_stale : PySem.W.findIn K (.ref c_Maker) "stale" = some none)
    (na_Maker_more : PySem.W.findIn K (.ref c_Maker) "more" = some none)
    (mi_Maker__X1 : PySem.W.makesIn K c_Maker = true)
    (kc_Maker__X1 : PySem.W.keepIn K (.ref c_Maker) = true)
    (mi_Maker : PySem.W.makesIn K c_Maker = true)
    (kc_Maker : PySem.W.keepIn K (.ref c_Maker) = true) :
    ∃ fd : FuncData, (∀ (s : Shared) (v : Value), BindsTo s fd ⟨[v], []⟩ [("_law_script", v)]) ∧ ∀ base : Heap, K.In base → base.Ns mainGlobals mg → FnOk l.prog w K mg base CX0 8 fa fd ["_law_script"] (spLaw K) := by
  have e := hfa.symm.trans (PySem.W.mg_of X G a1_law)
  cases e
  have Fis_sign := fun_mk (st := s_is_sign) a2_is_sign a3_is_sign a4_is_sign
  have Fis_colour := fun_mk (st := s_is_colour) a2_is_colour a3_is_colour a4_is_colour
  have Fchecked__X1 := fun_mk (st := s_checked__X1) a2_checked__X1 a3_checked__X1 a4_checked__X1
  have Fsign_item := fun_mk (st := s_sign_item) a2_sign_item a3_sign_item a4_sign_item
  have Fbegins_mark := fun_mk (st := s_begins_mark) a2_begins_mark a3_begins_mark a4_begins_mark
  have Fmark_item := fun_mk (st := s_mark_item) a2_mark_item a3_mark_item a4_mark_item
  have FReader_init := fun_mk (st := s_Reader_init) a2_Reader_init a3_Reader_init a4_Reader_init
  have FReader_told := fun_mk (st := s_Reader_told) a2_Reader_told a3_Reader_told a4_Reader_told
  have FReader_take := fun_mk (st := s_Reader_take) a2_Reader_take a3_Reader_take a4_Reader_take
  have FReader_feed__X1 := fun_mk (st := s_Reader_feed__X1) a2_Reader_feed__X1 a3_Reader_feed__X1 a4_Reader_feed__X1
  have FReader_finish := fun_mk (st := s_Reader_finish) a2_Reader_finish a3_Reader_finish a4_Reader_finish
  have Fitems_of__X1 := fun_mk (st := s_items_of__X1) a2_items_of__X1 a3_items_of__X1 a4_items_of__X1
  have Fchecked_most__X1 := fun_mk (st := s_checked_most__X1) a2_checked_most__X1 a3_checked_most__X1 a4_checked_most__X1
  have Fchecked_most := fun_mk (st := s_checked_most) a2_checked_most a3_checked_most a4_checked_most
  have FMaker_init__X1 := fun_mk (st := s_Maker_init__X1) a2_Maker_init__X1 a3_Maker_init__X1 a4_Maker_init__X1
  have FMaker_init := fun_mk (st := s_Maker_init) a2_Maker_init a3_Maker_init a4_Maker_init
  have FMaker_open_letters := fun_mk (st := s_Maker_open_letters) a2_Maker_open_letters a3_Maker_open_letters a4_Maker_open_letters
  have FMaker_make_plain := fun_mk (st := s_Maker_make_plain) a2_Maker_make_plain a3_Maker_make_plain a4_Maker_make_plain
  have FMaker_tell_part := fun_mk (st := s_Maker_tell_part) a2_Maker_tell_part a3_Maker_tell_part a4_Maker_tell_part
  have FMaker_put_sign := fun_mk (st := s_Maker_put_sign) a2_Maker_put_sign a3_Maker_put_sign a4_Maker_put_sign
  have FMaker_put := fun_mk (st := s_Maker_put) a2_Maker_put a3_Maker_put a4_Maker_put
  have Frows_of__X1 := fun_mk (st := s_rows_of__X1) a2_rows_of__X1 a3_rows_of__X1 a4_rows_of__X1
  have Flw_cell := fun_mk (st := s_lw_cell) a2_lw_cell a3_lw_cell a4_lw_cell
  have Flw_mix := fun_mk (st := s_lw_mix) a2_lw_mix a3_lw_mix a4_lw_mix
  have Flw_parts := fun_mk (st := s_lw_parts) a2_lw_parts a3_lw_parts a4_lw_parts
  have Flw_whole__X1 := fun_mk (st := s_lw_whole__X1) a2_lw_whole__X1 a3_lw_whole__X1 a4_lw_whole__X1
  have Flw_whole := fun_mk (st := s_lw_whole) a2_lw_whole a3_lw_whole a4_lw_whole
  have Flw_letters_right := fun_mk (st := s_lw_letters_right) a2_lw_letters_right a3_lw_letters_right a4_lw_letters_right
  have Flw_parts_right := fun_mk (st := s_lw_parts_right) a2_lw_parts_right a3_lw_parts_right a4_lw_parts_right
  have Flw_bad_most := fun_mk (st := s_lw_bad_most) a2_lw_bad_most a3_lw_bad_most a4_lw_bad_most
  have Flw_word := fun_mk (st := s_lw_word) a2_lw_word a3_lw_word a4_lw_word
  have Flw_asked := fun_mk (st := s_lw_asked) a2_lw_asked a3_lw_asked a4_lw_asked
  have Flw_made := fun_mk (st := s_lw_made) a2_lw_made a3_lw_made a4_lw_made
  have Flw_by_turns := fun_mk (st := s_lw_by_turns) a2_lw_by_turns a3_lw_by_turns a4_lw_by_turns
  have Flaw := fun_mk (st := s_law) a2_law a3_law a4_law
  have FNoSign_init := fun_mk (st := s_NoSign_init) a2_NoSign_init a3_NoSign_init a4_NoSign_init
  let T : Tx K mg w := {
    cl := fun i => if i = 11 then c_Reader else if i = 12 then c_Maker else if i = 0 then c_OutError else if i = 1 then c_NoSign else if i = 2 then c_NoName else if i = 3 then c_NoHand else if i = 4 then c_Twice else if i = 5 then c_Closed else if i = 6 then c_NoSize else if i = 7 then c_NoRoom else if i = 8 then c_NoRoll else if i = 9 then c_NoCell else if i = 10 then c_NoRow else 0,
    a_is_sign := p_is_sign,
    d_is_sign := _,
    f_is_sign := Fis_sign,
    b_is_sign := Fis_sign.binds (ps := ["thing"]) fun _ _ _ _ _ _ us hl => match us, hl with | [_], _ => rfl,
    g_is_sign := PySem.W.mg_of X G a1_is_sign,
    a_is_colour := p_is_colour,
    d_is_colour := _,
    f_is_colour := Fis_colour,
    b_is_colour := Fis_colour.binds (ps := ["thing"]) fun _ _ _ _ _ _ us hl => match us, hl with | [_], _ => rfl,
    g_is_colour := PySem.W.mg_of X G a1_is_colour,
    a_checked__X1 := p_checked__X1,
    d_checked__X1 := _,
    f_checked__X1 := Fchecked__X1,
    b_checked__X1 := Fchecked__X1.binds (ps := ["text"]) fun _ _ _ _ _ _ us hl => match us, hl with | [_], _ => rfl,
    g_checked__X1 := PySem.W.mg_of X G a1_checked__X1,
    a_sign_item := p_sign_item,
    d_sign_item := _,
    f_sign_item := Fsign_item,
    b_sign_item := Fsign_item.binds (ps := ["place", "sign"]) fun _ _ _ _ _ _ us hl => match us, hl with | [_, _], _ => rfl,
    g_sign_item := PySem.W.mg_of X G a1_sign_item,
    a_begins_mark := p_begins_mark,
    d_begins_mark := _,
    f_begins_mark := Fbegins_mark,
    b_begins_mark := Fbegins_mark.binds (ps := ["text"]) fun _ _ _ _ _ _ us hl => match us, hl with | [_], _ => rfl,
    g_begins_mark := PySem.W.mg_of X G a1_begins_mark,
    a_mark_item := p_mark_item,
    d_mark_item := _,
    f_mark_item := Fmark_item,
    b_mark_item := Fmark_item.binds (ps := ["place", "text"]) fun _ _ _ _ _ _ us hl => match us, hl with | [_, _], _ => rfl,
    g_mark_item := PySem.W.mg_of X G a1_mark_item,
    a_Reader_init := p_Reader_init,
    d_Reader_init := _,
    f_Reader_init := FReader_init,
    b_Reader_init := FReader_init.binds (ps := ["self"]) fun _ _ _ _ _ _ us hl => match us, hl with | [_], _ => rfl,
    a_Reader_told := p_Reader_told,
    d_Reader_told := _,
    f_Reader_told := FReader_told,
    b_Reader_told := FReader_told.binds (ps := ["self", "many"]) fun _ _ _ _ _ _ us hl => match us, hl with | [_, _], _ => rfl,
    a_Reader_take := p_Reader_take,
    d_Reader_take := _,
    f_Reader_take := FReader_take,
    b_Reader_take := FReader_take.binds (ps := ["self", "sign"]) fun _ _ _ _ _ _ us hl => match us, hl with | [_, _], _ => rfl,
    a_Reader_feed__X1 := p_Reader_feed__X1,
    d_Reader_feed__X1 := _,
    f_Reader_feed__X1 := FReader_feed__X1,
    b_Reader_feed__X1 := FReader_feed__X1.binds (ps := ["self", "piece"]) fun _ _ _ _ _ _ us hl => match us, hl with | [_, _], _ => rfl,
    a_Reader_finish := p_Reader_finish,
    d_Reader_finish := _,
    f_Reader_finish := FReader_finish,
    b_Reader_finish := FReader_finish.binds (ps := ["self"]) fun _ _ _ _ _ _ us hl => match us, hl with | [_], _ => rfl,
    a_items_of__X1 := p_items_of__X1,
    d_items_of__X1 := _,
    f_items_of__X1 := Fitems_of__X1,
    b_items_of__X1 := Fitems_of__X1.binds (ps := ["text"]) fun _ _ _ _ _ _ us hl => match us, hl with | [_], _ => rfl,
    g_items_of__X1 := PySem.W.mg_of X G a1_items_of__X1,
    a_checked_most__X1 := p_checked_most__X1,
    d_checked_most__X1 := _,
    f_checked_most__X1 := Fchecked_most__X1,
    b_checked_most__X1 := Fchecked_most__X1.binds (ps := ["most"]) fun _ _ _ _ _ _ us hl => match us, hl with | [_], _ => rfl,
    g_checked_most__X1 := PySem.W.mg_of X G a1_checked_most__X1,
    a_checked_most := p_checked_most,
    d_checked_most := _,
    f_checked_most := Fchecked_most,
    b_checked_most := Fchecked_most.binds (ps := ["most"]) fun _ _ _ _ _ _ us hl => match us, hl with | [_], _ => rfl,
    g_checked_most := PySem.W.mg_of X G a1_checked_most,
    a_Maker_init__X1 := p_Maker_init__X1,
    d_Maker_init__X1 := _,
    f_Maker_init__X1 := FMaker_init__X1,
    b_Maker_init__X1 := FMaker_init__X1.binds (ps := ["self", "most"]) fun _ _ _ _ _ _ us hl => match us, hl with | [_, _], _ => rfl,
    a_Maker_init := p_Maker_init,
    d_Maker_init := _,
    f_Maker_init := FMaker_init,
    b_Maker_init := FMaker_init.binds (ps := ["self", "most"]) fun _ _ _ _ _ _ us hl => match us, hl with | [_, _], _ => rfl,
    a_Maker_open_letters := p_Maker_open_letters,
    d_Maker_open_letters := _,
    f_Maker_open_letters := FMaker_open_letters,
    b_Maker_open_letters := FMaker_open_letters.binds (ps := ["self"]) fun _ _ _ _ _ _ us hl => match us, hl with | [_], _ => rfl,
    a_Maker_make_plain := p_Maker_make_plain,
    d_Maker_make_plain := _,
    f_Maker_make_plain := FMaker_make_plain,
    b_Maker_make_plain := FMaker_make_plain.binds (ps := ["self"]) fun _ _ _ _ _ _ us hl => match us, hl with | [_], _ => rfl,
    a_Maker_tell_part := p_Maker_tell_part,
    d_Maker_tell_part := _,
    f_Maker_tell_part := FMaker_tell_part,
    b_Maker_tell_part := FMaker_tell_part.binds (ps := ["self", "word"]) fun _ _ _ _ _ _ us hl => match us, hl with | [_, _], _ => rfl,
    a_Maker_put_sign := p_Maker_put_sign,
    d_Maker_put_sign := _,
    f_Maker_put_sign := FMaker_put_sign,
    b_Maker_put_sign := FMaker_put_sign.binds (ps := ["self", "sign", "place"]) fun _ _ _ _ _ _ us hl => match us, hl with | [_, _, _], _ => rfl,
    a_Maker_put := p_Maker_put,
    d_Maker_put := _,
    f_Maker_put := FMaker_put,
    b_Maker_put := FMaker_put.binds (ps := ["self", "item"]) fun _ _ _ _ _ _ us hl => match us, hl with | [_, _], _ => rfl,
    a_rows_of__X1 := p_rows_of__X1,
    d_rows_of__X1 := _,
    f_rows_of__X1 := Frows_of__X1,
    b_rows_of__X1 := Frows_of__X1.binds (ps := ["text", "most"]) fun _ _ _ _ _ _ us hl => match us, hl with | [_, _], _ => rfl,
    g_rows_of__X1 := PySem.W.mg_of X G a1_rows_of__X1,
    a_lw_cell := p_lw_cell,
    d_lw_cell := _,
    f_lw_cell := Flw_cell,
    b_lw_cell := Flw_cell.binds (ps := ["_law_script", "_law_k"]) fun _ _ _ _ _ _ us hl => match us, hl with | [_, _], _ => rfl,
    g_lw_cell := PySem.W.mg_of X G a1_lw_cell,
    a_lw_mix := p_lw_mix,
    d_lw_mix := _,
    f_lw_mix := Flw_mix,
    b_lw_mix := Flw_mix.binds (ps := ["_law_cell_here", "_law_k"]) fun _ _ _ _ _ _ us hl => match us, hl with | [_, _], _ => rfl,
    g_lw_mix := PySem.W.mg_of X G a1_lw_mix,
    a_lw_parts := p_lw_parts,
    d_lw_parts := _,
    f_lw_parts := Flw_parts,
    b_lw_parts := Flw_parts.binds (ps := ["_law_items", "_law_most"]) fun _ _ _ _ _ _ us hl => match us, hl with | [_, _], _ => rfl,
    g_lw_parts := PySem.W.mg_of X G a1_lw_parts,
    a_lw_whole__X1 := p_lw_whole__X1,
    d_lw_whole__X1 := _,
    f_lw_whole__X1 := Flw_whole__X1,
    b_lw_whole__X1 := Flw_whole__X1.binds (ps := ["_law_found"]) fun _ _ _ _ _ _ us hl => match us, hl with | [_], _ => rfl,
    g_lw_whole__X1 := PySem.W.mg_of X G a1_lw_whole__X1,
    a_lw_whole := p_lw_whole,
    d_lw_whole := _,
    f_lw_whole := Flw_whole,
    b_lw_whole := Flw_whole.binds (ps := ["_law_found"]) fun _ _ _ _ _ _ us hl => match us, hl with | [_], _ => rfl,
    g_lw_whole := PySem.W.mg_of X G a1_lw_whole,
    a_lw_letters_right := p_lw_letters_right,
    d_lw_letters_right := _,
    f_lw_letters_right := Flw_letters_right,
    b_lw_letters_right := Flw_letters_right.binds (ps := ["_law_found", "_law_due"]) fun _ _ _ _ _ _ us hl => match us, hl with | [_, _], _ => rfl,
    g_lw_letters_right := PySem.W.mg_of X G a1_lw_letters_right,
    a_lw_parts_right := p_lw_parts_right,
    d_lw_parts_right := _,
    f_lw_parts_right := Flw_parts_right,
    b_lw_parts_right := Flw_parts_right.binds (ps := ["_law_found", "_law_due"]) fun _ _ _ _ _ _ us hl => match us, hl with | [_, _], _ => rfl,
    g_lw_parts_right := PySem.W.mg_of X G a1_lw_parts_right,
    a_lw_bad_most := p_lw_bad_most,
    d_lw_bad_most := _,
    f_lw_bad_most := Flw_bad_most,
    b_lw_bad_most := Flw_bad_most.binds (ps := ["_law_cell_here"]) fun _ _ _ _ _ _ us hl => match us, hl with | [_], _ => rfl,
    g_lw_bad_most := PySem.W.mg_of X G a1_lw_bad_most,
    a_lw_word := p_lw_word,
    d_lw_word := _,
    f_lw_word := Flw_word,
    b_lw_word := Flw_word.binds (ps := ["_law_e"]) fun _ _ _ _ _ _ us hl => match us, hl with | [_], _ => rfl,
    g_lw_word := PySem.W.mg_of X G a1_lw_word,
    a_lw_asked := p_lw_asked,
    d_lw_asked := _,
    f_lw_asked := Flw_asked,
    b_lw_asked := Flw_asked.binds (ps := ["_law_text", "_law_most"]) fun _ _ _ _ _ _ us hl => match us, hl with | [_, _], _ => rfl,
    g_lw_asked := PySem.W.mg_of X G a1_lw_asked,
    a_lw_made := p_lw_made,
    d_lw_made := _,
    f_lw_made := Flw_made,
    b_lw_made := Flw_made.binds (ps := ["_law_most"]) fun _ _ _ _ _ _ us hl => match us, hl with | [_], _ => rfl,
    g_lw_made := PySem.W.mg_of X G a1_lw_made,
    a_lw_by_turns := p_lw_by_turns,
    d_lw_by_turns := _,
    f_lw_by_turns := Flw_by_turns,
    b_lw_by_turns := Flw_by_turns.binds (ps := ["_law_script", "_law_mosts"]) fun _ _ _ _ _ _ us hl => match us, hl with | [_, _], _ => rfl,
    g_lw_by_turns := PySem.W.mg_of X G a1_lw_by_turns,
    a_law := fa,
    d_law := _,
    f_law := Flaw,
    b_law := Flaw.binds (ps := ["_law_script"]) fun _ _ _ _ _ _ us hl => match us, hl with | [_], _ => rfl,
    g_law := PySem.W.mg_of X G a1_law,
    z_ValueError := PySem.W.mg_none_of X G z_ValueError,
    z_bool := PySem.W.mg_none_of X G z_bool,
    z_enumerate := PySem.W.mg_none_of X G z_enumerate,
    z_int := PySem.W.mg_none_of X G z_int,
    z_isinstance := PySem.W.mg_none_of X G z_isinstance,
    z_len := PySem.W.mg_none_of X G z_len,
    z_list := PySem.W.mg_none_of X G z_list,
    z_range := PySem.W.mg_none_of X G z_range,
    z_str := PySem.W.mg_none_of X G z_str,
    z_tuple := PySem.W.mg_none_of X G z_tuple,
    z_zip := PySem.W.mg_none_of X G z_zip,
    k_COLOURS := ⟨_, PySem.W.mg_of X G k_COLOURS, _, by rfl⟩,
    k_CONTROLS := ⟨_, PySem.W.mg_of X G k_CONTROLS, _, by rfl⟩,
    k_ENDS := ⟨_, _, _, PySem.W.mg_of X G k1_ENDS, k2_ENDS, k4_ENDS, k3_ENDS⟩,
    k_FIRST := ⟨_, PySem.W.mg_of X G k_FIRST, _, by rfl⟩,
    k_LAST := ⟨_, PySem.W.mg_of X G k_LAST, _, by rfl⟩,
    k_MORE := ⟨_, PySem.W.mg_of X G k_MORE, _, by rfl⟩,
    k_MOST := ⟨_, PySem.W.mg_of X G k_MOST, _, by rfl⟩,
    k_PLAIN := ⟨_, PySem.W.mg_of X G k_PLAIN, _, by rfl⟩,
    k_WHOLE := ⟨_, PySem.W.mg_of X G k_WHOLE, _, by rfl⟩,
    cls_Reader := ⟨pg_Reader, hd_Reader, po_Reader, sa_Reader⟩,
    gc_Reader := PySem.W.mg_of X G gc_Reader,
    cls_Maker := ⟨pg_Maker, hd_Maker, po_Maker, sa_Maker⟩,
    gc_Maker := PySem.W.mg_of X G gc_Maker,
    na_Reader_kept := na_Reader_kept,
    na_Reader_place := na_Reader_place,
    me_Reader_told := ⟨a1_Reader_told, a5_Reader_told, a4_Reader_told⟩,
    me_Reader_take := ⟨a1_Reader_take, a5_Reader_take, a4_Reader_take⟩,
    mk_Reader := ⟨mi_Reader, a1_Reader_init, a5_Reader_init, kc_Reader⟩,
    me_Reader_feed__X1 := ⟨a1_Reader_feed__X1, a5_Reader_feed__X1, a4_Reader_feed__X1⟩,
    me_Reader_finish := ⟨a1_Reader_finish, a5_Reader_finish, a4_Reader_finish⟩,
    xp_NoSize := xp_NoSize,
    xq_NoSize := xq_NoSize,
    xb_NoSize := x4_NoSize,
    xt_NoSize := xt_NoSize,
    na_Maker_most := na_Maker_most,
    na_Maker_row := na_Maker_row,
    na_Maker_ink := na_Maker_ink,
    na_Maker_ground := na_Maker_ground,
    na_Maker_stale := na_Maker_stale,
    na_Maker_more := na_Maker_more,
    me_Maker_tell_part := ⟨a1_Maker_tell_part, a5_Maker_tell_part, a4_Maker_tell_part⟩,
    me_Maker_make_plain := ⟨a1_Maker_make_plain, a5_Maker_make_plain, a4_Maker_make_plain⟩,
    me_Maker_put_sign := ⟨a1_Maker_put_sign, a5_Maker_put_sign, a4_Maker_put_sign⟩,
    mk_Maker__X1 := ⟨mi_Maker__X1, a1_Maker_init__X1, a5_Maker_init__X1, kc_Maker__X1⟩,
    me_Maker_put := ⟨a1_Maker_put, a5_Maker_put, a4_Maker_put⟩,
    me_Maker_open_letters := ⟨a1_Maker_open_letters, a5_Maker_open_letters, a4_Maker_open_letters⟩,
    xm_OutError := fun n fs h => by
      simp only [xL_OutError, List.mem_cons, List.not_mem_nil, or_false, Prod.mk.injEq] at h
      rcases h with ⟨rfl, _⟩ | ⟨rfl, _⟩
      · exact PySem.W.exm_ref xm1_OutError xm2_OutError xm3_OutError xs_NoSign__OutError
      · exact PySem.W.exm_ref xm1_OutError xm2_OutError xm3_OutError xs_NoSize__OutError,
    mk_Maker := ⟨mi_Maker, a1_Maker_init, a5_Maker_init, kc_Maker⟩,
    gc_OutError := PySem.W.mg_of X G gc_OutError,
    gc_NoSign := PySem.W.mg_of X G gc_NoSign,
    gc_NoName := PySem.W.mg_of X G gc_NoName,
    gc_NoHand := PySem.W.mg_of X G gc_NoHand,
    gc_Twice := PySem.W.mg_of X G gc_Twice,
    gc_Closed := PySem.W.mg_of X G gc_Closed,
    gc_NoSize := PySem.W.mg_of X G gc_NoSize,
    gc_NoRoom := PySem.W.mg_of X G gc_NoRoom,
    gc_NoRoll := PySem.W.mg_of X G gc_NoRoll,
    gc_NoCell := PySem.W.mg_of X G gc_NoCell,
    gc_NoRow := PySem.W.mg_of X G gc_NoRow,
    a_NoSign_init := p_NoSign_init,
    d_NoSign_init := _,
    f_NoSign_init := FNoSign_init,
    b_NoSign_init := FNoSign_init.binds (ps := ["self", "at"]) fun _ _ _ _ _ _ us hl => match us, hl with | [_, _], _ => rfl,
    xo_NoSign := ⟨⟨_, _, _, _, _, _, _, _, _, _, _, _, _, _, _, xl_NoSign, (show PySem.HandSPX.refsVE [.type "ValueError", .type "Exception", .type "BaseException", .type "object"] = true by decide +kernel)⟩, xw_NoSign, x4_NoSign, xt_NoSign, xq_NoSign⟩,
    xic_NoSign := a1_NoSign_init,
    xit_NoSign := a5_NoSign_init,
    xn_NoSign := xn_NoSign,
    rd_OutError := rd_OutError,
    ga_OutError := ga_OutError,
    bi_OutError := bi_OutError,
    xf_at := fun n fs h => by
      simp only [xL, List.mem_cons, List.not_mem_nil, or_false, Prod.mk.injEq] at h
      rcases h with ⟨rfl, _⟩ | ⟨rfl, _⟩
      · exact xf_at__NoSign
      · exact xf_at__NoSize,
    xc := fun n fs h => by
      simp only [xL, List.mem_cons, List.not_mem_nil, or_false, Prod.mk.injEq] at h
      rcases h with ⟨rfl, _⟩ | ⟨rfl, _⟩
      · exact ⟨x1_NoSign, x2_NoSign, x3_NoSign, x4_NoSign, x5_NoSign, x6_NoSign, x7_NoSign, x8_NoSign, x9_NoSign⟩
      · exact ⟨x1_NoSize, x2_NoSize, x3_NoSize, x4_NoSize, x5_NoSize, x6_NoSize, x7_NoSize, x8_NoSize, x9_NoSize⟩,
    xv := fun n fs h => by
      simp only [xL, List.mem_cons, List.not_mem_nil, or_false, Prod.mk.injEq] at h
      rcases h with ⟨rfl, _⟩ | ⟨rfl, _⟩
      · exact ik_v_NoSign
      · exact ik_v_NoSize,
    xk := fun n fs k h hk => by
      simp only [xL, List.mem_cons, List.not_mem_nil, or_false, Prod.mk.injEq] at h
      simp only [kL, List.mem_cons, List.not_mem_nil, or_false] at hk
      rcases h with ⟨rfl, _⟩ | ⟨rfl, _⟩
      · rcases hk with rfl | rfl | rfl | rfl | rfl | rfl | rfl | rfl | rfl | rfl
        · exact ik_NoSign__NoSign
        · exact ik_NoSign__NoName
        · exact ik_NoSign__NoHand
        · exact ik_NoSign__Twice
        · exact ik_NoSign__Closed
        · exact ik_NoSign__NoSize
        · exact ik_NoSign__NoRoom
        · exact ik_NoSign__NoRoll
        · exact ik_NoSign__NoCell
        · exact ik_NoSign__NoRow
      · rcases hk with rfl | rfl | rfl | rfl | rfl | rfl | rfl | rfl | rfl | rfl
        · exact ik_NoSize__NoSign
        · exact ik_NoSize__NoName
        · exact ik_NoSize__NoHand
        · exact ik_NoSize__Twice
        · exact ik_NoSize__Closed
        · exact ik_NoSize__NoSize
        · exact ik_NoSize__NoRoom
        · exact ik_NoSize__NoRoll
        · exact ik_NoSize__NoCell
        · exact ik_NoSize__NoRow }
  exact ⟨PySem.W.fnOf "law" "law" (defArgs s_law) (defBody s_law) (defScope s_law) .none kV_law dc_law pm_law an_law cd_law ct_law, fun s v => .of_eq rfl, fun base _ _ => law_ok (ok_law T) LT⟩
end LW
namespace PySem.W.Fast
def tw16654223557565091221:=0
def tw10518752998061755591:=0
def tw13783384703876872572:=0
def tw17390511027944427761:=0
def tw3318649473907526121:=0
def tw11166173684695444122:=0
def tw16815792816354893509:=0
def tw8563827465379556510:=0
def tw12946741771395496811:=0
def tw16826324778297810536:=0
def tw14343424741062171408:=0
def tw11676666710199080088:=0
def tw7915065777109867809:=0
def tw13245327333147653444:=0
def tw10508314207174678841:=0
def tw12441591558402544447:=0
def tw10582332921558979936:=0
def tw5391261605613934229:=0
def tw6389571126561105441:=0
def tw10035182967108958752:=0
def tw8456857276116202381:=0
def tw17627459810993081796:=0
def tw3711288513566775857:=0
def tw9412215327851184211:=0
def tw1164236677155580670:=0
def tw12258804164190527519:=0
def tw3602516731402478727:=0
def tw1383177684636962711:=0
def tw16690442903115270589:=0
def tw2627860511096416009:=0
def tw14419118692557020052:=0
def tw15700631477585574649:=0
def tw5309209723499530535:=0
def tw15781165303262862670:=0
def tw11380296574736783584:=0
def tw2587711905923714982:=0
def tw10106340921501658832:=0
def tw6299011865145422527:=0
def tw2280171976335408735:=0
def tw190209197380484492:=0
def tw10788167617585875313:=0
def tw15725714799993119927:=0
def tw17836587836383741849:=0
def tw17551935172913837922:=0
def tw14043167465470832695:=0
def tw69028310387859254:=0
def tw1600871010771857810:=0
def tw16057793825584740373:=0
def tw496327075830743675:=0
def tw14634689236711012957:=0
def tw4302491489435040513:=0
def tw5579528903077882439:=0
def tw15044418478773420322:=0
def tw12784437030740340578:=0
def tw131317807248071867:=0
def tw17197701979923022362:=0
def tw16248759420657035619:=0
def tw373140689218170075:=0
def tw4846766474398237452:=0
def tw15400222964476558593:=0
def tw6469452984850422748:=0
def tw11507785864723891112:=0
def tw1608948059099039506:=0
def tw4327793643718677845:=0
def tw6366507415548227775:=0
def tw10273802533358398988:=0
def tw16120268377009199829:=0
def tw13622492630166370260:=0
def tw4026220662193266025:=0
def tw7302474273925070886:=0
def tw3781531896930085465:=0
def tw15259118396671900837:=0
def tw18097511631758618223:=0
def tw11310893756070725062:=0
def tw2823302061073970996:=0
def tw16444471320207675661:=0
def tw2677291618624517753:=0
def tw13896998935964362130:=0
def tw11629372838949818767:=0
def tw2666849998361170729:=0
def tw10102469895735969831:=0
def tw8833202185750930264:=0
def tw14079203965231655562:=0
def tw670898724187537217:=0
def tw17393519155547451967:=0
def tw16782588560141416401:=0
def tw902279049269195615:=0
def tw22145562131318730:=0
def tw3994758570176044181:=0
def tw1565942271166011356:=0
def tw15072324888764447715:=0
def tw18250042984252626291:=0
def tw3349327103784548763:=0
def tw3397161411885307874:=0
def tw4387076788005343372:=0
def tw5488776714906762900:=0
def tw11102793447535980007:=0
def tw3749834823567328131:=0
def tw16101810070089939705:=0
def tw8492840394588167083:=0
def tw17530988864022697277:=0
def tw14575418127981270932:=0
def tw12638903838292903728:=0
def tw6673684430192027785:=0
def tw12780956193113722914:=0
def tw4973549000522203059:=0
def tw10417859659105006031:=0
def tw15700839033032687778:=0
def tw9412392562339416839:=0
def tw12448728897522302422:=0
def tw10734120934054245373:=0
def tw5207690036386090636:=0
def tw3660134270056028149:=0
def tw9025090781208878052:=0
def tw3920646905010209768:=0
def tw5462571455551322676:=0
def tw9543673153161129988:=0
def tw1704113104656867373:=0
def tw528781083770104859:=0
def tw17456595294334406374:=0
def tw12045052874261190873:=0
def tw4522761013135860665:=0
def tw17461823518069468783:=0
def tw13817293927160661959:=0
def tw10516084505230233310:=0
def tw18071427011725037752:=0
def tw18058242083212968993:=0
def tw5975991828948303046:=0
def tw14727254397070386850:=0
def tw9130983732533816331:=0
def tw14999377139283326733:=0
def tw8630985973873376586:=0
def tw1755385383460011248:=0
def tw15526301160217567851:=0
def tw4257147419151359726:=0
def tw14127440515773029853:=0
def tw16396079995380117824:=0
def tw13293853835410824579:=0
def tw11366980247886387865:=0
def tw16397475428834494309:=0
def tw6582167818012630652:=0
def tw7807308030806480660:=0
def tw3572450905614014540:=0
def tw2208929629710805050:=0
def tw10369283660508212062:=0
def tw4995154400879923347:=0
def tw8610051226333775749:=0
def tw7046516579851274543:=0
def tw7571230393102543031:=0
def tw8423400527181425050:=0
def tw15608594997589226021:=0
def tw16023619754045850130:=0
def tw1499155719813096066:=0
def tw11034593044917690124:=0
def tw17010698731327389883:=0
def tw7765113899308477251:=0
def tw5723141353486825930:=0
def tw10882731240313203369:=0
def tw6753595224133713574:=0
def tw4185120826045073264:=0
def tw15726131695716975139:=0
def tw6988769677638659447:=0
def tw8935094154558206840:=0
def tw15476149124337113454:=0
def tw17959315450669843634:=0
def tw7381129036809181417:=0
def tw12530213834259742090:=0
def tw697792700846421113:=0
def tw9387349004623072231:=0
def tw6866299944878435662:=0
def tw6962616776396330089:=0
def tw8837519681228153736:=0
def tw6516720160093846275:=0
def tw9764484207645090459:=0
def tw18108452386200747663:=0
def tw3885866004593100682:=0
def tw2912158092487109437:=0
def tw602717200123680481:=0
def tw3704193236042460647:=0
def tw10026362239170029419:=0
def tw17403178088479332735:=0
def tw10357253895636671887:=0
def tw15165788787115215155:=0
def tw17435219717376466844:=0
def tw10943792855071902880:=0
def tw9557999163274751825:=0
def tw9490176860820935442:=0
def tw12383898069435228051:=0
def tw15893578404948632311:=0
def tw5017729576958145422:=0
def tw15423605787411914577:=0
def tw12042156637035760042:=0
def tw12696071844246699115:=0
def tw4256057158367869309:=0
def tw4892743549468997030:=0
def tw9280140351328429863:=0
def tw1186999931039077971:=0
def tw14177493513366868082:=0
def tw13243426548112373432:=0
def tw17444253994673764975:=0
def tw18183396689881104333:=0
def tw3455622096539663541:=0
def tw10335117321794196589:=0
def tw2173314235810765:=0
def tw7484091841241190334:=0
def tw17082530200764798988:=0
def tw1427821137579769914:=0
def tw11400753393319670885:=0
def tw17340182881925915471:=0
def tw8232420004518573364:=0
def tw3143157994576576614:=0
def tw1904557333768311086:=0
def tw13319198840476134799:=0
def tw1934273564071306596:=0
def tw18444868093649489964:=0
def tw4393945733589484252:=0
def tw18294900374241760771:=0
def tw3545362869742994278:=0
def tw12628135966535269678:=0
def tw4074357069668985740:=0
def tw1798468311714137592:=0
def tw7694882408187121362:=0
def tw1125041958672795277:=0
def tw14258330423455052290:=0
def tw17953536991771520793:=0
def tw2061531514455857817:=0
def tw12602774118263945453:=0
def tw4798382128963321090:=0
def tw8600274804113183556:=0
def tw17427957564742723080:=0
def tw6395314193963512990:=0
def tw3505183818757557962:=0
def tw9438218233066380085:=0
def tw8465681127112070079:=0
def tw6167853922043258591:=0
def tw8226130129993724417:=0
def tw12002999466308640951:=0
def tw4078867527922047643:=0
def tw2326743544949215152:=0
def tw1829864326971392663:=0
def tw13983895919073740990:=0
def tw12096809086921917638:=0
def tw3108668185154795786:=0
def tw11708687977540625431:=0
def tw10814611460670054366:=0
def tw16765549190861486494:=0
def tw2179601154418689466:=0
def tw16723835742372368694:=0
def tw15897742208496969816:=0
def tw1930834011147551950:=0
def tw5509226125344032988:=0
def tw9833213911356114091:=0
def tw4506675663417092025:=0
def tw1064252421677859749:=0
def tw619947173915397886:=0
def tw7614517803329314562:=0
def tw11873513905358662954:=0
def tw9185713117560510843:=0
def tw6018082178738182744:=0
def tw7930279207219717694:=0
def tw12818835194676431910:=0
def tw12017864187330895135:=0
def tw16148527907440321300:=0
def tw12584056406202497092:=0
def tw13106038326994898351:=0
def tw10177899311908731542:=0
def tw5082890551562637188:=0
def tw7123652703269454959:=0
def tw9389525675851662096:=0
def tw3395309677648356060:=0
def tw6814024115635707699:=0
def tw13468733628230872325:=0
def tw9263059365394088711:=0
def tw5806542253260198751:=0
def tw16474624863234677106:=0
def tw15952766045849307744:=0
def tw16552047903395844226:=0
def tw13762606542680038457:=0
def tw2911380348841680105:=0
def tw15067680670742489959:=0
def tw3406137955655264681:=0
def tw1949461376602077248:=0
def tw3345878517169007652:=0
def tw12968868936743556714:=0
def tw7752120040378145153:=0
def tw12817135067862596681:=0
def tw7597979358645771272:=0
def tw17216965050530637039:=0
def tw3475867078618594923:=0
def tw13674037719056645605:=0
def tw6170349421962859769:=0
def tw13266647253383219182:=0
def tw752897660937212790:=0
def tw12584060357076717003:=0
def tw15042615715747142086:=0
def tw18040830956767046196:=0
def tw3399590065026447881:=0
def tw4075266832598392589:=0
def tw3815684374281749356:=0
def tw3194243994911890484:=0
def tw12408715859184296193:=0
def tw12445304259089432368:=0
def tw4804634488946636447:=0
def tw15977398986329156629:=0
def tw16891527559779371628:=0
def tw2593677121765859186:=0
def tw4746608420757455577:=0
def tw14379069996066967461:=0
def tw15542218352636871770:=0
def tw2741448925507819028:=0
def tw17325337352711782983:=0
def tw12657054283423552295:=0
def tw8945798610525565769:=0
def tw6523209500636385538:=0
def tw6702965405765150319:=0
def tw17940698151713445875:=0
def tw1824750811633574777:=0
def tw355426428055289519:=0
def tw13573732806573761668:=0
def tw105118161504144598:=0
def tw13415464905808856502:=0
def tw6952804633340247761:=0
def tw1261784107583595492:=0
def tw6172201928140773752:=0
def tw13058272641573731129:=0
def tw12477932944828536055:=0
def tw3193269230365105943:=0
def tw3709427804078996277:=0
def tw17614820806141332231:=0
def tw866812310923363946:=0
def tw17113931429464628645:=0
def tw16827896749312849264:=0
def tw1490750877986461700:=0
def tw15652949003963946376:=0
def tw11693015352435940418:=0
def tw6106573586886632281:=0
def tw10947958727972296382:=0
def tw4822771321287630870:=0
def tw608081050697483155:=0
def tw11299108818406777605:=0
def tw14709111311175487293:=0
def tw14992652597976576594:=0
def tw11961958604576633152:=0
def tw15725839519487034673:=0
def tw1572451523047487098:=0
def tw8425674987138231034:=0
def tw16094245161993485909:=0
def tw16374566034209951882:=0
def tw15519116997181882640:=0
def tw3336218476205795241:=0
def tw2484703476229697614:=0
def tw14410006515565938149:=0
def tw15278974269479055645:=0
def tw9360941899888830525:=0
def tw16770636318944044977:=0
def tw2197846473828747638:=0
def tw15221523117971990552:=0
def tw15117619494406761292:=0
def tw8178917172314481065:=0
def tw9001344346814180765:=0
def tw9345681700244307473:=0
def tw804813013469703409:=0
def tw16354568753552085672:=0
def tw7840364182701521516:=0
def tw8832807564051300408:=0
def tw11563627057519870266:=0
def tw17353691513770659780:=0
def tw2743446371369994305:=0
def tw8095016740753973742:=0
def tw16986232338061964707:=0
def tw17306101424103816814:=0
def tw11660912081877199495:=0
def tw7004367313205879640:=0
def tw17520564805946488788:=0
def tw11672982967347175058:=0
def tw3495973950845773529:=0
def tw17100934066843369764:=0
def tw15877753904910964129:=0
def tw14769983629190609658:=0
def tw14483847122044551697:=0
def tw10648073051017337616:=0
def tw11202408717235167345:=0
def tw6036987397680565866:=0
def tw8089800817623854971:=0
def tw4196592509920426412:=0
def tw1587712640671977673:=0
def tw2718443701266466854:=0
def tw1944443542547432232:=0
def tw10378981807230065196:=0
def tw17224900070178538680:=0
def tw10719258510873730776:=0
def tw8369590021589643681:=0
def tw8437053198964563443:=0
def tw7735578181978967974:=0
def tw13483296102673661249:=0
def tw4918037168004363498:=0
def tw6512372942867685355:=0
def tw9644293111819324174:=0
def tw2781464779259863016:=0
def tw14185046184172164016:=0
def tw5642042896564203918:=0
def tw11368108209673423192:=0
def tw277618570455638873:=0
def tw17478270412136080585:=0
def tw2190591257589058428:=0
def tw16821611935229057643:=0
def tw2039418763518989026:=0
def tw468376033971981041:=0
def tw7465660327410500260:=0
def tw14289906186654366470:=0
def tw10917546936109116025:=0
def tw16389777983819269483:=0
def tw3577426527385580839:=0
def tw3140165500122496191:=0
def tw4679849846588228994:=0
def tw11990359388393755538:=0
def tw4758788240355003765:=0
def tw12861036562637907403:=0
def tw8619936731869085161:=0
def tw9070710877199442979:=0
def tw11348500522787244083:=0
def tw17190497422037639706:=0
def tw1858036979990168279:=0
def tw3443013995875466224:=0
def tw1186244696649139846:=0
def tw5961298945062165183:=0
def tw4456850692026922957:=0
def tw971074910126034636:=0
def tw977220677263764854:=0
def tw18083121997929276233:=0
def tw16455070562404546183:=0
def tw11615140039684177612:=0
def tw5319929961831005363:=0
def tw16338668517924675448:=0
def tw13636911922906843028:=0
def tw13534122578654976354:=0
def tw7889912351325408263:=0
def tw16562050764573377128:=0
def tw16211129936641344449:=0
def tw12996323269742907217:=0
def tw6633377441539739083:=0
def tw14215577138335074209:=0
def tw10503399010035513499:=0
def tw8368042324708434891:=0
def tw5288964671871616268:=0
def tw6539854923075726313:=0
def tw11623462290053327921:=0
def tw444976491614359983:=0
def tw8229532204846314534:=0
def tw151880081052029138:=0
def tw10390759679955290755:=0
def tw16726348996396137394:=0
def tw15008125632606163538:=0
def tw1097782932929992696:=0
def tw5816312396405424786:=0
def tw7247306899957674740:=0
def tw2604518189378988964:=0
def tw3531451636231098325:=0
def tw5451246439771731879:=0
def tw18151544363479736912:=0
def tw12033930542588993974:=0
def tw9389450338949631739:=0
def tw1464915453436488161:=0
def tw14893258645979757423:=0
def tw17559598379866614752:=0
def tw17460189348574058179:=0
def tw4912371811096113901:=0
def tw4905730306779654412:=0
def tw7069398866555080956:=0
def tw3289449820071482520:=0
def tw3095527730701542729:=0
def tw5256372216124489952:=0
def tw9909541974252014933:=0
def tw3371999636062029973:=0
def tw645663304944443063:=0
def tw15443103494858335828:=0
def tw13504396391331490818:=0
def tw8343357722019237490:=0
def tw485301101179405901:=0
def tw8352629673641011003:=0
def tw1413381397345783525:=0
def tw6635593620701826658:=0
def tw10457289659618352215:=0
def tw680823843253549462:=0
def tw660254738406614917:=0
def tw5909597831086853753:=0
def tw13684413835754796699:=0
def tw13961786706666107260:=0
def tw13215663135702311709:=0
def tw12959004439974764203:=0
def tw3908497445067389336:=0
def tw6799602606201816849:=0
def tw12020525487250078885:=0
def tw3709550360776014105:=0
def tw8636315270560203456:=0
def tw17409063103140449240:=0
def tw15618010471486200955:=0
def tw11439061904771042870:=0
def tw7662292789036290256:=0
def tw9990825137850591249:=0
def tw6046836800224860663:=0
def tw14941242491177846505:=0
def tw13593498542281737997:=0
def tw13401635762046155276:=0
def tw8701532912715955093:=0
def tw5423330568877106132:=0
def tw1913250084575692482:=0
def tw7406161899059311187:=0
def tw11216118710635149704:=0
def tw6379277657179800577:=0
def tw17881525986878015634:=0
def tw6304995457015464827:=0
def tw14036393165274202180:=0
def tw5006369387386963915:=0
def tw5407074829610608620:=0
def tw2170343744593745204:=0
def tw15021437204559945844:=0
def tw4446682395752714326:=0
def tw7272202286199470992:=0
def tw6471711872552438443:=0
def tw5960118090492389016:=0
def tw9580675083745253483:=0
def tw8413644673985946912:=0
def tw16604151201824937726:=0
def tw18072243661782251899:=0
def tw10919213083239753353:=0
def tw12252475036505912819:=0
def tw15346971581956178625:=0
def tw14267268633570626994:=0
def tw16706820530081584057:=0
def tw17529457247928037543:=0
def tw1739825984500306984:=0
def tw12106121652374218622:=0
def tw5082297394741747081:=0
def tw7299298399107894462:=0
def tw4733831525603182611:=0
def tw10708772949773665200:=0
def tw14313666915860372570:=0
def tw17664397307547422731:=0
def tw9424118667966147876:=0
def tw8825979344268770778:=0
def tw16681670254815798345:=0
def tw5314695187802281673:=0
def tw15991858513017591359:=0
def tw15164555541461650692:=0
def tw1106195545288527520:=0
def tw3376659425133454592:=0
def tw15003986102425733409:=0
def tw17623251767850519096:=0
def tw4088284603221064624:=0
def tw8013363562561504625:=0
def tw14229998104419182941:=0
def tw8565792355101650126:=0
def tw3702746759609364034:=0
def tw2972892032357365155:=0
def tw4529329560091865497:=0
def tw14491221031450238786:=0
def tw8736645287465513837:=0
def tw6714990525688475054:=0
def tw10321974216461193750:=0
def tw16674876437384834632:=0
def tw18233399552220233903:=0
def tw6984615925719474945:=0
def tw3051076269833598246:=0
def tw1402386432265059170:=0
def tw11691667941770490011:=0
def tw14360245318190200613:=0
def tw11379594072604214888:=0
def tw1317249357047608070:=0
def tw7642491133765291754:=0
def tw14484764347607675307:=0
def tw14886756378024619251:=0
def tw10565029338422992442:=0
def tw14964107243138254556:=0
def tw7587179209179081235:=0
def tw13300132718317146901:=0
def tw7000577156940451726:=0
def tw7999486013854042175:=0
def tw1016238492212862382:=0
def tw7833178578321145499:=0
def tw15269970642690303834:=0
def tw14033838139046607810:=0
def tw17665357698288431663:=0
def tw1802154460075187926:=0
def tw11219058231488953945:=0
def tw2075471686725725770:=0
def tw2700544710596106374:=0
def tw10396735597086650575:=0
def tw8499097894721098529:=0
def tw12072490724915888593:=0
def tw12572201218926676327:=0
def tw746944809362308602:=0
def tw18433060766136010550:=0
def tw12397102496721029597:=0
def tw8794600517917876465:=0
def tw12556948934710804371:=0
def tw10429978781986891880:=0
def tw5158386303642590860:=0
def tw2165392731984957284:=0
def tw17630098374336608526:=0
def tw10477213641581635951:=0
def tw9650554795716171895:=0
def tw312911308495763777:=0
def tw7711804748132038967:=0
def tw5910937797014091003:=0
def tw14098740160099539021:=0
def tw5405938577467077564:=0
def tw13737293307538536355:=0
def tw14105580546975936601:=0
def tw6910080847765218930:=0
def tw15585432110349455569:=0
def tw9632671793605346396:=0
def tw16253515029000734990:=0
def tw8718236194091712480:=0
def tw12802791232931563332:=0
def tw14526236612084343557:=0
def tw489198328519206444:=0
def tw17567704511964468618:=0
def tw7090632051840420511:=0
def tw17970144157777736126:=0
def tw5251305646271846698:=0
def tw18066366442038813933:=0
def tw333158263381372619:=0
def tw8961988313850276248:=0
def tw10514319727267422360:=0
def tw5822388368799591950:=0
def tw6583293245611783415:=0
def tw14576897922300630238:=0
def tw8552688689203513290:=0
def tw10703086043993560771:=0
def tw1351992234532709817:=0
def tw2242138219677930134:=0
def tw2951346075508467294:=0
def tw5221226240636758940:=0
def tw17605223647237353884:=0
def tw15744486064765373838:=0
def tw10289064582438052300:=0
def tw10226309064663569949:=0
def tw12333509817650566082:=0
def tw2746573016758312641:=0
def tw14700138403468409813:=0
def tw9648315521581097633:=0
def tw1082728294430644626:=0
def tw4001034666882381349:=0
def tw757789401209972854:=0
def tw5941143242568089037:=0
def tw5222661659248035883:=0
def tw9633563066497756194:=0
def tw17931762813572285272:=0
def tw9776458546534541243:=0
def tw8381176745828568030:=0
def tw6665678661499819634:=0
def tw4739719539223491374:=0
def tw3484931414864347029:=0
def tw3972638659553005327:=0
def tw12032083425029775538:=0
def tw5580128155351072531:=0
def tw9430517005925552265:=0
def tw14668460882310235815:=0
def tw7175742014847578094:=0
def tw3730399676688743302:=0
def tw12942710377844186144:=0
def tw3575348547274007963:=0
def tw9624873539281830274:=0
def tw7813769314211573405:=0
def tw4922086479369682574:=0
def tw4574594907408554237:=0
def tw2084154304825307642:=0
def tw7899525452847054403:=0
def tw6781436841107211501:=0
def tw15752811116856374888:=0
def tw13227629880378633109:=0
def tw15220669268725334264:=0
def tw280721908659020212:=0
def tw15211657796329822528:=0
def tw7496731933274586185:=0
def tw12513328484970747862:=0
def tw12805510440571223892:=0
def tw7867022713181649869:=0
def tw10850507843018272848:=0
def tw10393507348219863686:=0
def tw12050554048136259517:=0
def tw6089488800186135639:=0
def tw742301048776913880:=0
def tw8979728880048009893:=0
def tw16165247163090539011:=0
def tw17469275618306911098:=0
def tw8597955386485585078:=0
def tw9920377284645711775:=0
def tw13955930137913170662:=0
def tw17532276694506380180:=0
def tw10797513046831045969:=0
def tw7411614031463201354:=0
def tw2879595643407779791:=0
def tw5870747813175754929:=0
def tw549293319429292170:=0
def tw3843947834258201200:=0
def tw12399373193193425408:=0
def tw385471163601253502:=0
def tw17937967777495915581:=0
def tw15226633804779945929:=0
def tw6903076267076382396:=0
def tw6725934668831957101:=0
def tw16508857026200522125:=0
def tw5968083885241082113:=0
def tw2294008579275320475:=0
def tw17097470927205629313:=0
def tw15095050497645142363:=0
def tw6658787731859459441:=0
def tw13165363924589047244:=0
def tw187968024128358609:=0
def tw2746214905215126370:=0
def tw14054818965672917401:=0
def tw3935066324577493440:=0
def tw9629085487068070687:=0
def tw1303761976569424918:=0
def tw2703374177393762649:=0
def tw8899757755019894641:=0
def tw3196052722783914324:=0
def tw15140040953463387063:=0
def tw8545681636235006958:=0
def tw2830942415621670246:=0
def tw1593508976582334305:=0
def tw2217930672955159512:=0
def tw7993868857252217206:=0
def tw10044469549040171727:=0
def tw16370611278812967709:=0
def tw9877514352820788561:=0
def tw10555033879482776363:=0
def tw13415706767598910840:=0
def tw7885201836997468903:=0
def tw13560878269225522301:=0
def tw11244539937163153674:=0
def tw768933412214621823:=0
def tw3089638922509764397:=0
def tw12929677421789046064:=0
def tw17464250045097402262:=0
def tw4282262850780737928:=0
def tw16940865083869001533:=0
def tw14817806428660118494:=0
def tw17693312197101610562:=0
def tw6034512819921453802:=0
def tw1199478969969573246:=0
def tw13287318117160921179:=0
def tw3065171875635555863:=0
def tw8674380600647159915:=0
def tw18394020175391428363:=0
def tw15960843620964348508:=0
def tw11081997896549467949:=0
def tw689585619610744914:=0
def tw12904298762870615142:=0
def tw18347361982004458514:=0
def tw5537369300423727000:=0
def tw8358219716983000986:=0
def tw13037635357647197899:=0
def tw1541512450243812483:=0
def tw15404489556789671516:=0
def tw15361033015421415521:=0
def tw6003783387103961759:=0
def tw3825005018213354914:=0
def tw9783613087693339147:=0
def tw6529250919569800692:=0
def tw13912321061036993345:=0
def tw12809956842951171477:=0
def tw7959339333776200247:=0
def tw8393236283860398575:=0
def tw18189354103417326875:=0
def tw13874501636805658733:=0
def tw5815552092513522889:=0
def tw7665898011374745467:=0
def tw3131238972679062480:=0
def tw10576923504841018848:=0
def tw18300014334692554570:=0
def tw7100278583415322140:=0
def tw3255760864762643717:=0
def tw1356272924072630846:=0
def tw5065754634956117535:=0
def tw9202290742073848786:=0
def tw15074696419489145549:=0
def tw10426937981837166925:=0
def tw5371960694654707145:=0
def tw5924923624961398392:=0
def tw13176581465830870297:=0
def tw14978876979276438098:=0
def tw12767367401716247774:=0
def tw2349746564680894684:=0
def tw13750049074876343221:=0
def tw14813134163643096693:=0
def tw11703872708468766367:=0
def tw18223783404708352316:=0
def tw17279646414006697462:=0
def tw5729531153872745378:=0
def tw14965960683597284816:=0
def tw18362196859959501349:=0
def tw11769368386196516037:=0
def tw16883604246400773247:=0
def tw7572778669119377124:=0
def tw2853779327380418277:=0
def tw8189491757252388891:=0
def tw3192303872171731417:=0
def tw4627140276770499680:=0
def tw12970026535341631687:=0
def tw2236324358535928497:=0
def tw3064101645075243679:=0
def tw4434755528984844361:=0
def tw18021283499463717062:=0
def tw12222407935438056068:=0
def tw6569335184308668806:=0
def tw17174317389570155013:=0
def tw17232815453152581347:=0
def tw6002772223250194422:=0
def tw16076995751771136772:=0
def tw13344545531688092249:=0
def tw13361071870362631809:=0
def tw10257472030635921256:=0
def tw5435211985423146294:=0
def tw14465514464653590249:=0
def tw3574538112443151577:=0
def tw17455833421624328014:=0
def tw17458387892180743100:=0
def tw6061897771082884702:=0
def tw11517055999570937238:=0
def tw10521709653553407844:=0
def tw9078657321185733245:=0
def tw4001654385307474665:=0
def tw5592063098683848758:=0
def tw14071506275032451053:=0
def tw14040032456299412229:=0
def tw17105480448716461050:=0
def tw136024298530031372:=0
def tw12878805784860873148:=0
def tw13815324570917885900:=0
def tw9975825738312490014:=0
def tw13049162240925755777:=0
def tw17760119425731817772:=0
def tw579811080939959242:=0
def tw10989926960712583230:=0
def tw10485600731795561317:=0
def tw6566794827521169468:=0
def tw3658851898456782930:=0
def tw16646866720556858551:=0
def tw13176831243392479109:=0
def tw10811765230228251684:=0
def tw289100605792990029:=0
def tw11838607667677468526:=0
def tw10792502602744238973:=0
def tw4772645605808642814:=0
def tw2027775764296309297:=0
def tw11815466386085614788:=0
def tw15231626598421606615:=0
def tw12128775616753557333:=0
def tw16208593848704992429:=0
def tw15114221386491844408:=0
def tw11473032986647090012:=0
def tw176435262646975562:=0
def tw15800361125449256214:=0
def tw16218108706739758950:=0
def tw17278137011041733671:=0
def tw18253150403244384417:=0
def tw16751141025348341732:=0
def tw1076324883344690398:=0
def tw820316769149161326:=0
def tw1485970876977382057:=0
def tw13307246196745186604:=0
def tw6238645608326459734:=0
def tw17086756997649127098:=0
def tw2903627912462732310:=0
def tw5680302199462335216:=0
def tw1927703507184450271:=0
def tw16163003766592017736:=0
def tw6047380407741560082:=0
def tw520924100432087403:=0
def tw592583251385211936:=0
def tw2165725020194916958:=0
def tw2249611340670655124:=0
def tw10017914863617635470:=0
def tw7547721364110324272:=0
def tw1573133882862918487:=0
def tw17761676072172888016:=0
def tw15471123950849179255:=0
def tw14254034810599024226:=0
def tw13641977879916351943:=0
def tw8891743913660158752:=0
def tw2439444353419546715:=0
def tw14668968760970009441:=0
def tw10356293945155806935:=0
def tw14433225979831170367:=0
def tw2991115973834658135:=0
def tw14074019400860425644:=0
def tw6618597468304131278:=0
def tw852914906723366564:=0
def tw10511043563973344301:=0
def tw10448805803443475862:=0
def tw17044115073840018955:=0
def tw16450392537662455331:=0
def tw12957640863710629997:=0
def tw15879098255370365354:=0
def tw1253486435849149705:=0
def tw5512424322343811426:=0
def tw10565959142851664673:=0
def tw6412521424896529347:=0
def tw17836526044476492526:=0
def tw17728394358551443742:=0
def tw10101388009949987445:=0
def tw13988748402181242680:=0
def tw12766546387080725030:=0
def tw14848970847739417898:=0
def tw200693106724603929:=0
def tw14796919984666595442:=0
def tw2222373582957879227:=0
def tw17992365649351723476:=0
def tw8199588130723851807:=0
def tw12982126518610332640:=0
def tw15298777655265302335:=0
def tw17324703400638833287:=0
def tw8362031799902610583:=0
def tw9907183242893629172:=0
def tw3330818219250653518:=0
def tw12904967968298906032:=0
def tw1028988579212056259:=0
def tw5302736389889467917:=0
def tw6328889142516492992:=0
def tw9737199621314580837:=0
def tw6165102067384401500:=0
def tw13989154848335160623:=0
def tw7709420261080626171:=0
def tw15855932848201150798:=0
def tw7999587009837463234:=0
def tw10804733265979476885:=0
def tw8017535423875315448:=0
def tw12847173427138194282:=0
def tw3566770035166199699:=0
def tw14062492589135449661:=0
def tw17645518346866651576:=0
def tw2485924489174797277:=0
def tw1871989437329334072:=0
def tw10516002483423376123:=0
def tw2267222585805413768:=0
def tw10676948883405926643:=0
def tw12600008351631344928:=0
def tw8277519035130414982:=0
def tw15313818039392173351:=0
def tw14157691677690696758:=0
def tw15873120303309289933:=0
def tw5704065478240026866:=0
def tw18078484506022672561:=0
def tw1967471492741336180:=0
def tw15739360703044256709:=0
def tw4915457046714704423:=0
def tw6130316864547914256:=0
def tw10253734960686765708:=0
def tw16490840878536668279:=0
def tw13327156434928144152:=0
def tw10852088395122814522:=0
def tw16777670797893206240:=0
def tw8523527983801493039:=0
def tw13766403423220219035:=0
def tw14832058368775347584:=0
def tw15966504281086849347:=0
def tw5920956932758671277:=0
def tw6583972041205929103:=0
def tw10748523329606082436:=0
def tw13235827785318237322:=0
def tw15368646528658666826:=0
def tw7001893990653252644:=0
def tw673028198770941627:=0
def tw12471429411847695578:=0
def tw18255101207882882886:=0
def tw8345562062182041665:=0
def tw10689340298924404243:=0
def tw12680192768052430929:=0
def tw17442983119485668787:=0
def tw15028687041140637040:=0
def tw7579681967438598475:=0
def tw5703356491090128572:=0
def tw8224582783459704499:=0
def tw15024677888856478727:=0
def tw1983055053084047662:=0
def tw9338530705681126863:=0
def tw14359832448811039828:=0
def tw9960137475871671764:=0
def tw14489307390229318535:=0
def tw16607852622581254648:=0
def tw1195446468556545205:=0
def tw11351821068745146127:=0
def tw5536454631695315375:=0
def tw6138508159653728796:=0
def tw445011876819556302:=0
def tw2274393440201642455:=0
def tw18420082127791995147:=0
def tw8590244470891503210:=0
def tw7057776290739922818:=0
def tw17218684905689881221:=0
def tw12919597377800724349:=0
def tw15601033399125437362:=0
def tw15345901793858494495:=0
def tw14470992547565138444:=0
def tw18039638224945669497:=0
def tw17419212699799401222:=0
def tw4327201722104480098:=0
def tw13682005136463623122:=0
def tw982062249884799060:=0
def tw14397693835392372228:=0
def tw17928421403323428591:=0
def tw1819629004139863872:=0
def tw6895426599268944384:=0
def tw3186961473429639316:=0
def tw17291615628946307141:=0
def tw10327588434574209633:=0
def tw15766412813158322347:=0
def tw18414180712693704270:=0
def tw15568398840177032700:=0
def tw12288576856917494414:=0
def tw4972392514610704682:=0
def tw4163123864404480203:=0
def tw2316121160897373356:=0
def tw4622640602326802101:=0
def tw11352483181748513025:=0
def tw4799937463917459528:=0
def tw15282451503681470104:=0
def tw6840475391680346346:=0
def tw776745079285293761:=0
def tw16949886165559325413:=0
def tw8147829059089732834:=0
def tw8043715004695327985:=0
def tw3585484432017527284:=0
def tw2229732207488416379:=0
def tw3757427393856049813:=0
def tw13959524259049260931:=0
def tw2445496442924725520:=0
def tw14468102742909211976:=0
def tw778054127315720245:=0
def tw12027634739139013654:=0
def tw13476286799809401041:=0
def tw2453640150802131514:=0
def tw15422360494532762943:=0
def tw14072349563059691803:=0
def tw2933199644189355866:=0
def tw10484408191406502969:=0
def tw5464961235473279520:=0
def tw1393074126494410913:=0
def tw5522877541398240762:=0
def tw38398049050751834:=0
def tw7373013377222591280:=0
def tw10214214589671464070:=0
def tw3378294279021479512:=0
def tw4995944709923718529:=0
def tw8441850676584123663:=0
def tw17983623611776800618:=0
def tw15299497646681548510:=0
def tw16659188801759568874:=0
def tw18001118333340973324:=0
def tw11270744584265100418:=0
def tw379747397112890186:=0
def tw1133541108874369846:=0
def tw199884756956881364:=0
def tw12544797928162866532:=0
def tw9398037866306505230:=0
def tw15892939311758963382:=0
def tw10581085254642927048:=0
def tw15555592237326107189:=0
def tw8926214970564783448:=0
def tw12707207439510818335:=0
def tw17711597831358497185:=0
def tw11832054122277675376:=0
def tw5520497228196656057:=0
def tw15197435585619585581:=0
def tw8408413731372974771:=0
def tw1806183153526707423:=0
def tw10895783579864401183:=0
def tw2178465258594046336:=0
def tw1734837176873202728:=0
def tw11036399630428612280:=0
def tw7782613191576312527:=0
def tw6107583722895180254:=0
def tw13883980951421107537:=0
def tw15834532156242283327:=0
def tw427179075613759503:=0
def tw11550055331984385246:=0
def tw10865778963878123038:=0
def tw12865343769973192987:=0
def tw4772440349928648049:=0
def tw4324362917010231807:=0
def tw7969374698174910707:=0
def tw12888531976055885826:=0
def tw12095808702350166622:=0
def tw5466420500249210378:=0
def tw4072748388105533137:=0
def tw2799059353085526543:=0
def tw18125059743184767977:=0
def tw4673586847754162204:=0
def tw147978907874485763:=0
def tw12267965475182237659:=0
def tw3273668473515723319:=0
def tw14178978206265492056:=0
def tw4974767705802500295:=0
def tw6736886265524427616:=0
def tw16084585245823336365:=0
def tw9623486477814078573:=0
def tw12243869870107058530:=0
def tw982613260261063085:=0
def tw4299470446872521361:=0
def tw11580612467178488799:=0
def tw10288780943782580255:=0
def tw9794282454795432000:=0
def tw18340592166510349040:=0
def tw9912221777071208856:=0
def tw14586089015070354584:=0
def tw15536024278580818159:=0
def tw9393713653938182413:=0
def tw2194667705841622839:=0
def tw12847945761968678197:=0
def tw13362173009345440984:=0
def tw302987309555042976:=0
def tw4596929825729996687:=0
def tw5393140695535387759:=0
def tw6087620228604833237:=0
def tw11112801061449201216:=0
def tw11038922965451755362:=0
def tw18139784226248649822:=0
def tw1528206645856879188:=0
def tw8095077875196539890:=0
def tw6397308565568860083:=0
def tw13636017524409818375:=0
def tw12739283653309971493:=0
def tw1433647425060984614:=0
def tw7805253555185876227:=0
def tw12402023325028015642:=0
def tw4626534273357701420:=0
def tw12701091513625750144:=0
def tw9571874490290079745:=0
def tw13527997653236579656:=0
def tw13063754908792250248:=0
def tw12042976242017022779:=0
def tw4102752121835821344:=0
def tw10656604847646719329:=0
def tw6501308388699187722:=0
def tw1647073997184596297:=0
def tw13040208133690882202:=0
def tw6595598218591448033:=0
def tw6176720429994216774:=0
def tw17731965284291684889:=0
def tw7828006985218871115:=0
def tw6540852652359418734:=0
def tw2940132332780058669:=0
def tw15820697793841961786:=0
def tw13711570178488861123:=0
def tw1811706093921195252:=0
def tw1505943772469040868:=0
def tw7204743335904666795:=0
def tw10043286056158957064:=0
def tw17175172268799940414:=0
def tw12129978015498942980:=0
def tw17282847446246068480:=0
def tw12165653021989179528:=0
def tw18237717445634455440:=0
def tw17168303339325623010:=0
def tw18034822416931852587:=0
def tw13748850250967976348:=0
def tw17650965538493321732:=0
def tw5992086429924328401:=0
def tw2251090741327562719:=0
def tw16434364339430562760:=0
def tw772840156531026224:=0
def tw12174724721084234373:=0
def tw11133379024723383773:=0
def tw9421178096149301055:=0
def tw2541399460389726240:=0
def tw11405244014608664206:=0
def tw9978325120204505003:=0
def tw16495934817649777544:=0
def tw7639157372563669540:=0
def tw3551515295252247225:=0
def tw6593606832612917481:=0
def tw16950476239827771677:=0
def tw7551049214349722851:=0
def tw8367039300267901221:=0
def tw6529689880347445768:=0
def tw6057142988341502199:=0
def tw12192983154027705552:=0
def tw9151535840717189169:=0
def tw8037850248987377453:=0
def tw3203248798541094540:=0
def tw8640253347568008821:=0
def tw11939458136070968512:=0
def tw14241688660543469794:=0
def tw1054661125980826786:=0
def tw12627697544048960913:=0
def tw17684618438856308036:=0
def tw3108917656338207339:=0
def tw5784836715166232755:=0
def tw15610571160500276159:=0
def tw16444007343927988453:=0
def tw12527690688789102235:=0
def tw18411122199089513720:=0
def tw7011925969031697897:=0
def tw4819489313069354046:=0
def tw2870615518367638395:=0
def tw16113621727408939374:=0
def tw4525762999769938388:=0
def tw16931204393702554478:=0
def tw12872788363159544879:=0
def tw10379799891823530143:=0
def tw18416224312710041296:=0
def tw13191408991206650807:=0
def tw15299272276741923457:=0
def tw16276136900511113536:=0
def tw11333315022265868729:=0
def tw1543182553577292085:=0
def tw15335703721688826287:=0
def tw8877703164017856117:=0
def tw4768512923233699746:=0
def tw3152317885503306800:=0
def tw11557928197946647457:=0
def tw844154133601836924:=0
def tw6747752125598617899:=0
def tw18028867925461638810:=0
def tw12681060179300897994:=0
def tw4895047220152627520:=0
def tw18298771121176178348:=0
def tw3488608336373660840:=0
def tw1087103107572755935:=0
def tw5426407473110585089:=0
def tw4808188596168987272:=0
def tw10763756925687339974:=0
def tw15732897830414116520:=0
def tw11332847560242754257:=0
def tw43057880088017728:=0
def tw15485991294761069164:=0
def tw4169004978380429602:=0
def tw18067691277313235314:=0
def tw2235788384931351859:=0
def tw9520409842391601857:=0
def tw10719868448466300800:=0
def tw16144770933618875990:=0
def tw9721086574723821947:=0
def tw16645734536714601475:=0
def tw11516077672032622587:=0
def tw15514753882079249485:=0
def tw7151902883575788074:=0
def tw9651509603722961575:=0
def tw37348435887542061:=0
def tw1211222813845125062:=0
def tw12812697280913263844:=0
def tw910721744346637461:=0
def tw13624004468518075458:=0
def tw1827390654319339813:=0
def tw449676793674953123:=0
def tw14614471184023202072:=0
def tw11387837499702637989:=0
def tw3970144379094137321:=0
def tw14106825814078122956:=0
def tw13714715021325555087:=0
def tw10472819655219507907:=0
def tw8571623755906962382:=0
def tw8482522777449398046:=0
def tw11195757094371700169:=0
def tw10444874577855022643:=0
def tw17069121025891822486:=0
def tw14166020536996859453:=0
def tw13692817679168455103:=0
def tw18302312762825518391:=0
def tw10442153381692367816:=0
def tw13867231079287897371:=0
def tw11913099237288893721:=0
def tw16568627009195932903:=0
def tw6521157759513416366:=0
def tw50121707427005929:=0
def tw16762835188452535806:=0
def tw2334927822062746:=0
def tw11172938888928194902:=0
def tw12422432350251351213:=0
def tw9327774957553047270:=0
def tw8525446775508858535:=0
def tw941244911366665647:=0
def tw6359241283593457388:=0
def tw15049767159586145001:=0
def tw12081521507094758413:=0
def tw16518713002350003841:=0
def tw2205342518116419495:=0
def tw319995803162084339:=0
def tw4382309574367010974:=0
def tw8212857513592728260:=0
def tw7728000828352580527:=0
def tw18156474274178545056:=0
def tw8502568650386179673:=0
def tw11571886070395108998:=0
def tw7131121727856086981:=0
def tw10507065825846670559:=0
def tw3221848007626744035:=0
def tw11819085514795616894:=0
def tw5438868194097957652:=0
def tw7160204049563278501:=0
def tw15913269876909029876:=0
def tw15053333367011957901:=0
def tw3829917592262072549:=0
def tw11594431138618741815:=0
def tw17457830077669789685:=0
def tw16698534301426072814:=0
def tw6887066768418861837:=0
def tw14517316532660532375:=0
def tw1986666403478709876:=0
def tw3464564230834620446:=0
def tw4963914317719307760:=0
def tw6216523241859762210:=0
def tw9914109152159043765:=0
def tw4840875043717591125:=0
def tw12089811322788070622:=0
def tw3563162649645663189:=0
def tw11158909465804756635:=0
def tw339432800643062232:=0
def tw5802151326650376994:=0
def tw7950186461814319360:=0
def tw9519946460890014934:=0
def tw1821265912380025986:=0
def tw4081841869596136658:=0
def tw14988076913082267263:=0
def tw10974402781274530755:=0
def tw9249474058976218188:=0
def tw10905363647695131670:=0
def tw13429759625188138850:=0
def tw11926427119715903874:=0
def tw2658698868803282573:=0
def tw6382644826623729158:=0
def tw1046473028693903840:=0
def tw8263903304558928710:=0
def tw4479774172960965268:=0
def tw5507720303434681159:=0
def tw9671888087180676621:=0
def tw12510262705456704284:=0
def tw187787575442475988:=0
def tw16155807068260383094:=0
def tw6313700482113181622:=0
def tw2277532742059622076:=0
def tw3549234741437828913:=0
def tw13168660577361242981:=0
def tw2998126500279191441:=0
def tw17734911762152362132:=0
def tw746119517402715630:=0
def tw3100281691248454626:=0
def tw160968202013928460:=0
def tw3257513908658362218:=0
def tw8325108460094473133:=0
def tw150061969193098315:=0
def tw8003299026017621240:=0
def tw18215045556467218275:=0
def tw16279102754173829509:=0
def tw1398403623599762838:=0
def tw1552105494732947244:=0
def tw1524418656762938188:=0
def tw12220807407215768113:=0
def tw5966114585730794532:=0
def tw7794909847994661051:=0
def tw12410228416341668080:=0
def tw10509265535195085517:=0
def tw13690606347672963519:=0
def tw6035823846687582767:=0
def tw13209647591973892380:=0
def tw6033951964672118310:=0
def tw10488933133900386792:=0
def tw13391938320176247335:=0
def tw1015033723407033505:=0
def tw13030160954982878395:=0
def tw17768167970446304748:=0
def tw16519602251703510902:=0
def tw1365701033587781982:=0
def tw10646190101958240490:=0
def tw3092117043721176055:=0
def tw3420834360632060266:=0
def tw17421672745337804257:=0
def tw14633597808797438935:=0
def tw7095105530710441449:=0
def tw14703572412364781922:=0
def tw8755857249073617056:=0
def tw6733602492274657247:=0
def tw2056765285462611304:=0
def tw5481912524922978845:=0
def tw12802371120559379860:=0
def tw15906505284946778225:=0
def tw18236994865462417220:=0
def tw7097076074103353433:=0
def tw5220316435375956481:=0
def tw5499627968993715452:=0
def tw17204532758050836625:=0
def tw142546258828377942:=0
def tw12123458269376765084:=0
def tw2140893340815292160:=0
def tw12206970877649434476:=0
def tw14406964921388001867:=0
def tw9458629491255328927:=0
def tw4397472079511200934:=0
def tw4078861389467830423:=0
def tw7168220309890378474:=0
def tw2557838966466434504:=0
def tw124262169416822361:=0
def tw2133568179525597104:=0
def tw2531844551134311558:=0
def tw8390445540631140953:=0
def tw8812815556845086503:=0
def tw10360986676756499264:=0
def tw5617072056677971529:=0
def tw11877852412215529777:=0
def tw16462425266938964046:=0
def tw9724322648809379231:=0
def tw9055453337511118121:=0
def tw241186888132392107:=0
def tw3703390548330376764:=0
def tw15203094364058101992:=0
def tw11126020247526975815:=0
def tw10270377287568738997:=0
def tw15574407479815032312:=0
def tw2885077948512000150:=0
def tw6054706725902339491:=0
def tw18416792305812914706:=0
def tw13360799978333968384:=0
def tw12150091353471743984:=0
def tw8120746483903254198:=0
def tw3740864435485860760:=0
def tw17212446788636089256:=0
def tw10899006750224218096:=0
def tw16188113226133047512:=0
def tw3374718238411076100:=0
def tw8806958000642497616:=0
def tw16726104384161820933:=0
def tw1450918438304467130:=0
def tw13671049313733343295:=0
def tw14964252148004453694:=0
def tw11526367502142570009:=0
def tw15556289019284984035:=0
def tw2886932696301285478:=0
def tw16833074506243729258:=0
def tw8808334331807596315:=0
def tw10050881858000549325:=0
def tw145999632229708277:=0
def tw17999915031709855370:=0
def tw12538874156317993154:=0
def tw3063018410146364130:=0
def tw1091551270216773286:=0
def tw6378976666039163318:=0
def tw1059731455786743225:=0
def tw1218851507092998562:=0
def tw624257339516722176:=0
def tw6749575703264579044:=0
def tw16570507840124323660:=0
def tw5480653168546827764:=0
def tw12387407898854343762:=0
def tw12744703069593702003:=0
def tw17970472003867655204:=0
def tw13947824144243729987:=0
def tw8146854153103332210:=0
def tw2433093432916881880:=0
def tw11752505764517313371:=0
def tw13487501294118951624:=0
def tw5253692603889417657:=0
def tw9105963044183811475:=0
def tw10670394568754498695:=0
def tw7957396354675083979:=0
def tw17470348120986042196:=0
def tw8274639952112581557:=0
def tw9933076771538733752:=0
def tw2966360430579907226:=0
def tw502437725665381057:=0
def tw12673601321548245965:=0
def tw17579109230529494303:=0
def tw18076696997170969187:=0
def tw13982272834459671123:=0
def tw11136961525177389283:=0
def tw5872858551939236794:=0
def tw11057266649617908365:=0
def tw1187969269029571050:=0
def tw1259406362499908144:=0
def tw5373157803638268079:=0
def tw15684233902806848492:=0
def tw8977928586932302155:=0
def tw8842524327809829691:=0
def tw9196434818232763788:=0
def tw5229505603286549533:=0
def tw4490664215222016417:=0
def tw16664559412408237056:=0
def tw3337340196646018142:=0
def tw7054459929303098119:=0
def tw12095877613746098100:=0
def tw4827395856899022858:=0
def tw10621249844397143396:=0
def tw11655779204656235545:=0
def tw17021888536170178894:=0
def tw17849714258516574161:=0
def tw17077082161487157928:=0
def tw9649788570879649612:=0
def tw236010076061143379:=0
def tw2795841555436504108:=0
def tw11478214525047514053:=0
def tw4261457280719322106:=0
def tw13778846210790679292:=0
def tw16672532451048964426:=0
def tw9341225972174979021:=0
def tw7551179168517408254:=0
def tw10916778784659623758:=0
def tw5271404478904406852:=0
def tw1749127408014788029:=0
def tw12529697929406343433:=0
def tw8712855808251265236:=0
def tw8913735774056489507:=0
def tw5251272972969282488:=0
def tw11613402891522265735:=0
def tw16337963990386720403:=0
def tw16405441890813339986:=0
def tw3993105403928714742:=0
def tw8957029521167389306:=0
def tw9081323402180926707:=0
def tw17271302838120000496:=0
def tw16581205489565122234:=0
def tw5816725262755049591:=0
def tw7405729926533144447:=0
def tw12440658983783008040:=0
def tw716215865444754726:=0
def tw4743970940728362234:=0
def tw14557077800784493919:=0
def tw5336581744843819289:=0
def tw16986180224084991529:=0
def tw12035733396877321639:=0
def tw9222704300385936342:=0
def tw16751390691298148790:=0
def tw9639206694238210429:=0
def tw1097681916172345907:=0
def tw7499706371016948890:=0
def tw9422774827565282058:=0
def tw10721232833930389328:=0
def tw1943343901329230736:=0
def tw17157012012293071017:=0
def tw16243865902916730440:=0
def tw15933403154379901113:=0
def tw4752877019906248972:=0
def tw348719192905844365:=0
def tw367197760127854356:=0
def tw5119770380528714594:=0
def tw8042511018453972781:=0
def tw12646782269440643860:=0
def tw343349508212145308:=0
def tw14652595160432435547:=0
def tw10881939310435583655:=0
def tw13343858860194268727:=0
def tw4820721778713630943:=0
def tw14169388255985989898:=0
def tw12142986679773282065:=0
def tw8960135955550110071:=0
def tw9049068104809926203:=0
def tw9420839587922982419:=0
def tw3871415739975736930:=0
def tw2743449640253947473:=0
def tw16671129630726732976:=0
def tw12416606461910312237:=0
def tw6953653341601327658:=0
def tw11720557547023673022:=0
def tw13820880863506572877:=0
def tw9658197053335036303:=0
def tw14342593847838830298:=0
def tw4482680886874370276:=0
def tw11090054455761511089:=0
def tw17002916357486017945:=0
def tw15413296866594084415:=0
def tw13243999553971699029:=0
def tw10377452844168349920:=0
def tw14645383873738122727:=0
def tw15424772852163900771:=0
def tw10147296295461281276:=0
def tw12638811133469996134:=0
def tw1715999975311707579:=0
def tw5903449280904195610:=0
def tw4770071414962515497:=0
def tw145681971630863743:=0
def tw8374383038712900794:=0
def tw11839925608613904382:=0
def tw4987622843255679750:=0
def tw13660085883986152428:=0
def tw9048583908761747359:=0
def tw4484452843503796736:=0
def tw3166632521792107921:=0
def tw1510201578332349410:=0
def tw16004509719997068533:=0
def tw3479824357437909977:=0
def tw5934060341920429698:=0
def tw9001617595907293227:=0
def tw14641790547240452062:=0
def tw14448724254063305707:=0
def tw5542474878955032966:=0
def tw5602212959821320230:=0
def tw12587404204346605922:=0
def tw11275683683493698933:=0
def tw8001675603624089184:=0
def tw17418203252615960115:=0
def tw16225731282557522439:=0
def tw2165667918068795843:=0
def tw15975818852799026131:=0
def tw3761413786586074718:=0
def tw4351850808264760776:=0
def tw9099208588367099136:=0
def tw17285439054199616743:=0
def tw2121146381772502344:=0
def tw2740675021218785868:=0
def tw10753806000663658298:=0
def tw12863682092265729402:=0
def tw18029033924117864250:=0
def tw13387811694263550817:=0
def tw6069806025796030966:=0
def tw15164025942883877692:=0
def tw3733748174547012315:=0
def tw16597954256210204802:=0
def tw17904850637612365420:=0
def tw15957698723911903785:=0
def tw9398156154338395548:=0
def tw905932192723015188:=0
def tw1724189420533194096:=0
def tw9260443892846010471:=0
def tw13517666376797806164:=0
def tw1547373006333371426:=0
def tw7099173255647723324:=0
def tw18166687507277174480:=0
def tw14287962831237352039:=0
def tw6318466797680494679:=0
def tw13277912544794861738:=0
def tw1640033667882437254:=0
def tw8944157043729704085:=0
def tw16673303676540547632:=0
def tw2169957316538377068:=0
def tw17561866302685608440:=0
def tw6281837603861574439:=0
def tw13152701706585879285:=0
def tw11202582037509124167:=0
def tw14443531966432953391:=0
def tw8707239669970205336:=0
def tw10644350759583123903:=0
def tw1172800485438185648:=0
def tw15439728446549225667:=0
def tw16512107619517881185:=0
def tw13090637766459554035:=0
def tw5211427601314181442:=0
def tw4956214000642698045:=0
def tw12444192076635781948:=0
def tw16734209030287734478:=0
def tw6867303429847071674:=0
def tw4879591325907714974:=0
def tw853554120502716764:=0
def tw4477158008650656402:=0
def tw11075426631536547676:=0
def tw14937705589027663920:=0
def tw2544651331163539709:=0
def tw1816853105873839808:=0
def tw9775231738156626945:=0
def tw4700622883671517275:=0
def tw11058356250791375362:=0
def tw4883710432565783016:=0
def tw8520808090180245741:=0
def tw16184364532802481128:=0
def tw9583290842135032601:=0
def tw12531478827782869157:=0
def tw8508828484727293183:=0
def tw26201265635533597:=0
def tw16548313939290028858:=0
def tw12382853428077951232:=0
def tw2325166514819517104:=0
def tw3367352764702623842:=0
def tw2629310030698353906:=0
def tw15073521913042961410:=0
def tw12555910769485906770:=0
def tw6217924803923064447:=0
def tw11420342184346415097:=0
def tw8863177203302962509:=0
def tw18379809267169197502:=0
def tw9493623220479734507:=0
def tw8256479754107267229:=0
def tw5852631015380128890:=0
def tw4085681595391002900:=0
def tw6968366900732999678:=0
def tw2284027432003236306:=0
def tw16587372017394631224:=0
def tw11398400269380956991:=0
def tw16518534712389023846:=0
def tw7340373930933795785:=0
def tw4007899788946131013:=0
def tw539815920982316662:=0
def tw15817613501825371014:=0
def tw10998720682270713337:=0
def tw3822374627076358239:=0
def tw7832944067195162895:=0
def tw13716816281025375371:=0
def tw12970612982541946683:=0
def tw17734553314975404254:=0
def tw14059196382284880235:=0
def tw16744567013164234526:=0
def tw1581817207125973370:=0
def tw17184289054553032857:=0
def tw10664903485107435768:=0
def tw12642775474882948608:=0
def tw12013265128349715089:=0
def tw7148837814172466760:=0
def tw9944439951352751343:=0
def tw13367468463075218382:=0
def tw1246238365339739218:=0
def tw17421146564920743436:=0
def tw5042888792702192548:=0
def tw10913029344973829855:=0
def tw5509237036258730155:=0
def tw17913454012849855105:=0
def tw9224064682987495792:=0
def tw16981275029573789900:=0
def tw11644680467239782090:=0
def tw10775712227741836696:=0
def tw13705766960962662727:=0
def tw10145081632209037795:=0
def tw111780267258948168:=0
def tw6226305759363249086:=0
def tw10160608162753552733:=0
def tw9863455877184832359:=0
def tw13163283223732651516:=0
def tw10132106756095332041:=0
def tw12661117740436238037:=0
def tw7181102131808598788:=0
def tw16590648514216314200:=0
def tw15345917704938443404:=0
def tw11975231820979181641:=0
def tw11103539809041076694:=0
def tw1095478782699187168:=0
def tw13780866415368478143:=0
def tw153135349551380469:=0
def tw12401702676212979680:=0
def tw6239418973501072395:=0
def tw3290706056273663138:=0
def tw1019405727026063402:=0
def tw9379625431505261366:=0
def tw12973273720723794317:=0
def tw9880955726906336383:=0
def tw4495565792218420506:=0
def tw15535965462016473182:=0
def tw13663440642974770940:=0
def tw13921085005476464056:=0
def tw5403073905422353552:=0
def tw12513513747050779354:=0
def tw13458033297034809330:=0
def tw15943334824416493726:=0
def tw15929817847790738436:=0
def tw2155255498717418436:=0
def tw14734797315893193463:=0
def tw7050651740588585769:=0
def tw15541333347812563107:=0
def tw14782966627024299410:=0
def tw1639841646628258007:=0
def tw13434849761523879848:=0
def tw17419375787029909746:=0
def tw6540543204730351208:=0
def tw15204116515891354294:=0
def tw14701125020711168054:=0
def tw13369622367936844470:=0
def tw4837346071654093171:=0
def tw2180334549742636370:=0
def tw16297836790958925991:=0
def tw16167767691401577957:=0
def tw18057678299286292199:=0
def tw11340580568894809485:=0
def tw6436785817455312765:=0
def tw11664243432627575033:=0
def tw150943560686228276:=0
def tw8636518440066737609:=0
def tw11477177581984664988:=0
def tw8449527426731758365:=0
def tw14033164848996749473:=0
def tw16243128387507422264:=0
def tw448161103889417774:=0
def tw3525017381377248389:=0
def tw183365582968179049:=0
def tw3583593471986742863:=0
def tw939533433388247062:=0
def tw8391074539842314655:=0
def tw3030055223365042462:=0
def tw3821157711521629859:=0
def tw6682232292550651955:=0
def tw17698303166198473617:=0
def tw8722768205738904073:=0
def tw9082790056524477164:=0
def tw12623093651177653819:=0
def tw8516250216469179430:=0
def tw11110401270350441834:=0
def tw12896836504571444978:=0
def tw16049684615900187561:=0
def tw15150345697867165528:=0
def tw18273038850178068107:=0
def tw17270303166638312356:=0
def tw12056165036625129833:=0
def tw8399537170565941162:=0
def tw6201583961089461479:=0
def tw9584454552996658540:=0
def tw16919454727569930347:=0
def tw7195710755140740124:=0
def tw10738104307993027085:=0
def tw9361704526024780656:=0
def tw10361593202785889720:=0
def tw1122202661449251194:=0
def tw11773773029112707186:=0
def tw3145313565176840022:=0
def tw467936609890753406:=0
def tw8123943630417818293:=0
def tw8168495149294115622:=0
def tw4796527480554679631:=0
def tw10158130718409245470:=0
def tw15345587656122373253:=0
def tw14281396178649059515:=0
def tw13991777933905289486:=0
def tw6031178327393893883:=0
def tw18293737261009610968:=0
def tw14226409623555196341:=0
def tw14361185546322011148:=0
def tw792903790225832356:=0
def tw13035841483325893705:=0
def tw338241135655826129:=0
def tw14836642926676682034:=0
def tw5396473690911628306:=0
def tw17644288847142974425:=0
def tw17876103761483283248:=0
def tw4198216251061824454:=0
def tw9875091509613823330:=0
def tw18358117911410080584:=0
def tw12746425529470351528:=0
def tw18161848328945735136:=0
def tw16097201797718327012:=0
def tw10554319100078874821:=0
def tw1617781726590806738:=0
def tw1486231411614314554:=0
def tw5649455590141533131:=0
def tw219358307914108760:=0
def tw1354273731013633483:=0
def tw17411538455820710457:=0
def tw13308905739621759288:=0
def tw14288876623469529401:=0
def tw7439055555369830391:=0
def tw10215464337647674131:=0
def tw591819154922814484:=0
def tw18140949230137346100:=0
def tw1067315477886379922:=0
def tw3757370478007072526:=0
def tw12027799237058416179:=0
def tw17186523246688118291:=0
def tw15409875801008473453:=0
def tw13589602207486888195:=0
def tw17040034939077691187:=0
def tw7038496001194426644:=0
def tw10245894610062628482:=0
def tw16618663760781294779:=0
def tw13990174855910727605:=0
def tw8439370416748626649:=0
def tw1030059613624885646:=0
def tw16802110650345076055:=0
def tw3584952577189680085:=0
def tw1861563150981190143:=0
def tw6590321117181305748:=0
def tw6178787829811333843:=0
def tw12794822256632885878:=0
def tw15468500967862831191:=0
def tw3963097198445679049:=0
def tw3146109950693845185:=0
def tw16221788519906283678:=0
def tw10134825340900507939:=0
def tw3474913929641427284:=0
def tw7765674787196195528:=0
def tw10849249286310147779:=0
def tw3348789407202127496:=0
def tw17086680214763994965:=0
def tw9271098385312035420:=0
def tw11899582735741701194:=0
def tw16139501264910984755:=0
def tw7647753157819599714:=0
def tw11936217184612644733:=0
def tw10298405277584793904:=0
def tw13280822635456195570:=0
def tw10851145692956429413:=0
def tw9505393801045861941:=0
def tw10521530057345755506:=0
def tw3671187666745238340:=0
def tw2032779212942512890:=0
def tw8299726401058619729:=0
def tw1949716686006236313:=0
def tw5068893609811023230:=0
def tw78414165986874924:=0
def tw15145224279252814726:=0
def tw17171788857087420232:=0
def tw12138177674883368748:=0
def tw14503290169828538286:=0
def tw15593432988649718791:=0
def tw4146389571134062602:=0
def tw10173545793177909617:=0
def tw16519968137178879536:=0
def tw15357853236121669230:=0
def tw17767535339451842056:=0
def tw8845407198866340167:=0
def tw7637071033497365387:=0
def tw12351910230391693371:=0
def tw6076999599138053572:=0
def tw489903375194290776:=0
def tw2479608278054064609:=0
def tw13083935724577629431:=0
def tw9143876606804030330:=0
def tw2903348021397103845:=0
def tw5973647962747418337:=0
def tw7123587798261035624:=0
def tw11302531746625363316:=0
def tw8872992102180787576:=0
def tw3016731331075371674:=0
def tw7829464014482451703:=0
def tw902793831300892067:=0
def tw9800688130579280654:=0
def tw16475846218851706149:=0
def tw1495847491883753247:=0
def tw9681137556326952935:=0
def tw6625695288407685823:=0
def tw2056202643884706681:=0
def tw15130064769611341606:=0
def tw18191548404353308138:=0
def tw8488647471202489627:=0
def tw11400088621032783491:=0
def tw644037816753256632:=0
def tw1963690588372995505:=0
def tw15616569188508241541:=0
def tw10879524196238189345:=0
def tw17497305542291115754:=0
def tw3019319985253096966:=0
def tw8231091006770233551:=0
def tw9158363699490064636:=0
def tw4787430206269640061:=0
def tw11445203594249528122:=0
def tw6569211333739552053:=0
def tw3661143993039950984:=0
def tw4418437425469129784:=0
def tw14472983899482438440:=0
def tw2230075835019945319:=0
def tw10529984298850083766:=0
def tw3364543795196026437:=0
def tw10837167291442340631:=0
def tw5122776115463799094:=0
def tw13696993409032057585:=0
def tw16982169981903107172:=0
def tw17479943688202813447:=0
def tw10810627020651474941:=0
def tw501351456434767077:=0
def tw417479107651366893:=0
def tw9427942099047584503:=0
def tw10840780340486262918:=0
def tw5952069330632128604:=0
def tw10415940820717734922:=0
def tw13407550133856606608:=0
def tw4203101025489572581:=0
def tw11127712768190028800:=0
def tw6835619221104784997:=0
def tw9484485147834065745:=0
def tw14040864891123936907:=0
def tw8785031158628336276:=0
def tw15970129579135360639:=0
def tw13459956119079584240:=0
def tw9780461868699557483:=0
def tw14985340538290004132:=0
def tw18336080138042429221:=0
def tw4542026243355156974:=0
def tw12059459071440482791:=0
def tw16410390098621526835:=0
def tw310181927079277926:=0
def tw10070499584455912389:=0
def tw16353199117868621516:=0
def tw10810366576427516423:=0
def tw5083404840745091204:=0
def tw15493455329831469060:=0
def tw2553678289241862939:=0
def tw9412050638262127919:=0
def tw615757457868577666:=0
def tw13738316449861318760:=0
def tw2966741138248059310:=0
def tw12886100254302350415:=0
def tw16479767173358550323:=0
def tw14326025532895215195:=0
def tw4293373291860533275:=0
def tw10828476034540343750:=0
def tw12597332872540455523:=0
def tw4279936092027116189:=0
def tw8105273586984489620:=0
def tw13713396481251003909:=0
def tw6634728891983365513:=0
def tw16852167521633743555:=0
def tw15654114080012545434:=0
def tw3718151164249655746:=0
def tw11109908147654320944:=0
def tw6849137212909186420:=0
def tw7505143135233729815:=0
def tw16866806291385256939:=0
def tw7665305455477612234:=0
def tw5655142205894674006:=0
def tw8040402487250072721:=0
def tw5753864577459917560:=0
def tw13965959540853003577:=0
def tw4854661440564152619:=0
def tw3962573809830115702:=0
def tw15172697108839155887:=0
def tw15061663556367550245:=0
def tw909238795282031154:=0
def tw4476184497275053358:=0
def tw14219717274449709625:=0
def tw8263972641924745484:=0
def tw5795605861177780822:=0
def tw2643908167775293171:=0
def tw11435530587218114776:=0
def tw5059303684003172902:=0
def tw16084696697604223659:=0
def tw15149796048102063489:=0
def tw17674507676208520431:=0
end PySem.W.Fast
open PySem PySem.W PyProof.Rows
set_option maxHeartbeats 0 in
theorem PySem.Challenge.cw_outweave_k27_most_refused_holds : PySem.Challenge.rw_outweave_k27_most_refused.Holds := by
  w_on; o_law; k_head; (case hw => w_witness2)
  k_fill
  refine L2.walk_ofB (l := PySem.Challenge.rw_outweave_k27_most_refused) (n := 63) (k := 8) (x := "_law_script") (CX := fun _ => L2.CX0) (sp := fun w => LI.spLaw _) rfl (by decide) rfl ⟨rfl, by decide, by decide⟩ (fun w h Y => PySem.W.kIn_of Y) ?F (fun _ _ a ns hl hb _ hS => ⟨a, ns, rfl, hS, hl, hb, fun _ => rfl⟩) (fun _ _ _ _ _ h => h)
  case F =>
    intro w mg fa h KX G hmg
    refine' LW.all_mk LW.law_true KX G hmg ?gc_OutError ?gc_NoSign ?gc_NoName ?gc_NoHand ?gc_Twice ?gc_Closed ?gc_NoSize ?gc_NoRoom ?gc_NoRoll ?gc_NoCell ?gc_NoRow ?x1_NoSign ?x2_NoSign ?x3_NoSign ?x4_NoSign ?x5_NoSign ?x6_NoSign ?x7_NoSign ?x8_NoSign ?x9_NoSign ?ik_v_NoSign ?ik_NoSign__Closed ?ik_NoSign__NoCell ?ik_NoSign__NoHand ?ik_NoSign__NoName ?ik_NoSign__NoRoll ?ik_NoSign__NoRoom ?ik_NoSign__NoRow ?ik_NoSign__NoSign ?ik_NoSign__NoSize ?ik_NoSign__Twice ?xs_NoSign__OutError ?x1_NoSize ?x2_NoSize ?x3_NoSize ?x4_NoSize ?x5_NoSize ?x6_NoSize ?x7_NoSize ?x8_NoSize ?x9_NoSize ?ik_v_NoSize ?ik_NoSize__Closed ?ik_NoSize__NoCell ?ik_NoSize__NoHand ?ik_NoSize__NoName ?ik_NoSize__NoRoll ?ik_NoSize__NoRoom ?ik_NoSize__NoRow ?ik_NoSize__NoSign ?ik_NoSize__NoSize ?ik_NoSize__Twice ?xs_NoSize__OutError ?xf_at__NoSign ?xf_at__NoSize ?a1_NoSign_init ?a5_NoSign_init ?a2_NoSign_init ?a3_NoSign_init ?a4_NoSign_init ?xl_NoSign ?xw_NoSign ?xt_NoSign ?xq_NoSign ?xn_NoSign ?rd_OutError ?ga_OutError ?bi_OutError ?xm1_OutError ?xm2_OutError ?xm3_OutError ?xp_NoSize ?xq_NoSize ?xt_NoSize ?gc_Reader ?gc_Maker ?a1_is_sign ?a2_is_sign ?a3_is_sign ?a4_is_sign ?a1_is_colour ?a2_is_colour ?a3_is_colour ?a4_is_colour ?a1_checked__X1 ?a2_checked__X1 ?a3_checked__X1 ?a4_checked__X1 ?a1_sign_item ?a2_sign_item ?a3_sign_item ?a4_sign_item ?a1_begins_mark ?a2_begins_mark ?a3_begins_mark ?a4_begins_mark ?a1_mark_item ?a2_mark_item ?a3_mark_item ?a4_mark_item ?a1_Reader_init ?a5_Reader_init ?a2_Reader_init ?a3_Reader_init ?a4_Reader_init ?a1_Reader_told ?a5_Reader_told ?a2_Reader_told ?a3_Reader_told ?a4_Reader_told ?a1_Reader_take ?a5_Reader_take ?a2_Reader_take ?a3_Reader_take ?a4_Reader_take ?a1_Reader_feed__X1 ?a5_Reader_feed__X1 ?a2_Reader_feed__X1 ?a3_Reader_feed__X1 ?a4_Reader_feed__X1 ?a1_Reader_finish ?a5_Reader_finish ?a2_Reader_finish ?a3_Reader_finish ?a4_Reader_finish ?a1_items_of__X1 ?a2_items_of__X1 ?a3_items_of__X1 ?a4_items_of__X1 ?a1_checked_most__X1 ?a2_checked_most__X1 ?a3_checked_most__X1 ?a4_checked_most__X1 ?a1_checked_most ?a2_checked_most ?a3_checked_most ?a4_checked_most ?a1_Maker_init__X1 ?a5_Maker_init__X1 ?a2_Maker_init__X1 ?a3_Maker_init__X1 ?a4_Maker_init__X1 ?a1_Maker_init ?a5_Maker_init ?a2_Maker_init ?a3_Maker_init ?a4_Maker_init ?a1_Maker_open_letters ?a5_Maker_open_letters ?a2_Maker_open_letters ?a3_Maker_open_letters ?a4_Maker_open_letters ?a1_Maker_make_plain ?a5_Maker_make_plain ?a2_Maker_make_plain ?a3_Maker_make_plain ?a4_Maker_make_plain ?a1_Maker_tell_part ?a5_Maker_tell_part ?a2_Maker_tell_part ?a3_Maker_tell_part ?a4_Maker_tell_part ?a1_Maker_put_sign ?a5_Maker_put_sign ?a2_Maker_put_sign ?a3_Maker_put_sign ?a4_Maker_put_sign ?a1_Maker_put ?a5_Maker_put ?a2_Maker_put ?a3_Maker_put ?a4_Maker_put ?a1_rows_of__X1 ?a2_rows_of__X1 ?a3_rows_of__X1 ?a4_rows_of__X1 ?a1_lw_cell ?a2_lw_cell ?a3_lw_cell ?a4_lw_cell ?a1_lw_mix ?a2_lw_mix ?a3_lw_mix ?a4_lw_mix ?a1_lw_parts ?a2_lw_parts ?a3_lw_parts ?a4_lw_parts ?a1_lw_whole__X1 ?a2_lw_whole__X1 ?a3_lw_whole__X1 ?a4_lw_whole__X1 ?a1_lw_whole ?a2_lw_whole ?a3_lw_whole ?a4_lw_whole ?a1_lw_letters_right ?a2_lw_letters_right ?a3_lw_letters_right ?a4_lw_letters_right ?a1_lw_parts_right ?a2_lw_parts_right ?a3_lw_parts_right ?a4_lw_parts_right ?a1_lw_bad_most ?a2_lw_bad_most ?a3_lw_bad_most ?a4_lw_bad_most ?a1_lw_word ?a2_lw_word ?a3_lw_word ?a4_lw_word ?a1_lw_asked ?a2_lw_asked ?a3_lw_asked ?a4_lw_asked ?a1_lw_made ?a2_lw_made ?a3_lw_made ?a4_lw_made ?a1_lw_by_turns ?a2_lw_by_turns ?a3_lw_by_turns ?a4_lw_by_turns ?a1_law ?a2_law ?a3_law ?a4_law ?z_ValueError ?z_bool ?z_enumerate ?z_int ?z_isinstance ?z_len ?z_list ?z_range ?z_str ?z_tuple ?z_zip ?k_COLOURS ?k_CONTROLS ?k1_ENDS ?k2_ENDS ?k4_ENDS ?k3_ENDS ?k_FIRST ?k_LAST ?k_MORE ?k_MOST ?k_PLAIN ?k_WHOLE ?pg_Reader ?hd_Reader ?po_Reader ?sa_Reader ?pg_Maker ?hd_Maker ?po_Maker ?sa_Maker ?na_Reader_kept ?na_Reader_place ?mi_Reader ?kc_Reader ?na_Maker_most ?na_Maker_row ?na_Maker_ink ?na_Maker_ground ?na_Maker_stale ?na_Maker_more ?mi_Maker__X1 ?kc_Maker__X1 ?mi_Maker ?kc_Maker
    (case gc_OutError => k_is); (case gc_NoSign => k_is); (case gc_NoName => k_is); (case gc_NoHand => k_is); (case gc_Twice => k_is); (case gc_Closed => k_is); (case gc_NoSize => k_is); (case gc_NoRoom => k_is); (case gc_NoRoll => k_is); (case gc_NoCell => k_is); (case gc_NoRow => k_is); (case x1_NoSign => k_is); (case x2_NoSign => k_is); (case x3_NoSign => k_is); (case x4_NoSign => k_is); (case x5_NoSign => k_is); (case x6_NoSign => k_is); (case x7_NoSign => k_is); (case x8_NoSign => k_is); (case x9_NoSign => k_is); (case ik_v_NoSign => kit_is); (case ik_NoSign__Closed => kit_is); (case ik_NoSign__NoCell => kit_is); (case ik_NoSign__NoHand => kit_is); (case ik_NoSign__NoName => kit_is); (case ik_NoSign__NoRoll => kit_is); (case ik_NoSign__NoRoom => kit_is); (case ik_NoSign__NoRow => kit_is); (case ik_NoSign__NoSign => kit_is); (case ik_NoSign__NoSize => kit_is); (case ik_NoSign__Twice => kit_is); (case xs_NoSign__OutError => k_is); (case x1_NoSize => k_is); (case x2_NoSize => k_is); (case x3_NoSize => k_is); (case x4_NoSize => k_is); (case x5_NoSize => k_is); (case x6_NoSize => k_is); (case x7_NoSize => k_is); (case x8_NoSize => k_is); (case x9_NoSize => k_is); (case ik_v_NoSize => kit_is); (case ik_NoSize__Closed => kit_is); (case ik_NoSize__NoCell => kit_is); (case ik_NoSize__NoHand => kit_is); (case ik_NoSize__NoName => kit_is); (case ik_NoSize__NoRoll => kit_is); (case ik_NoSize__NoRoom => kit_is); (case ik_NoSize__NoRow => kit_is); (case ik_NoSize__NoSign => kit_is); (case ik_NoSize__NoSize => kit_is); (case ik_NoSize__Twice => kit_is); (case xs_NoSize__OutError => k_is); (case xf_at__NoSign => k_is); (case xf_at__NoSize => k_is); (case a1_NoSign_init => k_is); (case a5_NoSign_init => k_is); (case a2_NoSign_init => k_is); (case a3_NoSign_init => k_is); (case a4_NoSign_init => k_is); (case xl_NoSign => k_is); (case xw_NoSign => k_is); (case xt_NoSign => k_is); (case xq_NoSign => k_is); (case xn_NoSign => k_is); (case rd_OutError => k_is); (case ga_OutError => k_is); (case bi_OutError => k_is); (case xm1_OutError => k_is); (case xm2_OutError => k_is); (case xm3_OutError => k_is); (case xp_NoSize => k_exc); (case xq_NoSize => k_is); (case xt_NoSize => k_is); (case gc_Reader => k_is); (case gc_Maker => k_is); (case a1_is_sign => k_is); (case a2_is_sign => k_is); (case a3_is_sign => k_is); (case a4_is_sign => k_is); (case a1_is_colour => k_is); (case a2_is_colour => k_is); (case a3_is_colour => k_is); (case a4_is_colour => k_is); (case a1_checked__X1 => k_is); (case a2_checked__X1 => k_is); (case a3_checked__X1 => k_is); (case a4_checked__X1 => k_is); (case a1_sign_item => k_is); (case a2_sign_item => k_is); (case a3_sign_item => k_is); (case a4_sign_item => k_is); (case a1_begins_mark => k_is); (case a2_begins_mark => k_is); (case a3_begins_mark => k_is); (case a4_begins_mark => k_is); (case a1_mark_item => k_is); (case a2_mark_item => k_is); (case a3_mark_item => k_is); (case a4_mark_item => k_is); (case a1_Reader_init => k_is); (case a5_Reader_init => k_is); (case a2_Reader_init => k_is); (case a3_Reader_init => k_is); (case a4_Reader_init => k_is); (case a1_Reader_told => k_is); (case a5_Reader_told => k_is); (case a2_Reader_told => k_is); (case a3_Reader_told => k_is); (case a4_Reader_told => k_is); (case a1_Reader_take => k_is); (case a5_Reader_take => k_is); (case a2_Reader_take => k_is); (case a3_Reader_take => k_is); (case a4_Reader_take => k_is); (case a1_Reader_feed__X1 => k_is); (case a5_Reader_feed__X1 => k_is); (case a2_Reader_feed__X1 => k_is); (case a3_Reader_feed__X1 => k_is); (case a4_Reader_feed__X1 => k_is); (case a1_Reader_finish => k_is); (case a5_Reader_finish => k_is); (case a2_Reader_finish => k_is); (case a3_Reader_finish => k_is); (case a4_Reader_finish => k_is); (case a1_items_of__X1 => k_is); (case a2_items_of__X1 => k_is); (case a3_items_of__X1 => k_is); (case a4_items_of__X1 => k_is); (case a1_checked_most__X1 => k_is); (case a2_checked_most__X1 => k_is); (case a3_checked_most__X1 => k_is); (case a4_checked_most__X1 => k_is); (case a1_checked_most => k_is); (case a2_checked_most => k_is); (case a3_checked_most => k_is); (case a4_checked_most => k_is); (case a1_Maker_init__X1 => k_is); (case a5_Maker_init__X1 => k_is); (case a2_Maker_init__X1 => k_is); (case a3_Maker_init__X1 => k_is); (case a4_Maker_init__X1 => k_is); (case a1_Maker_init => k_is); (case a5_Maker_init => k_is); (case a2_Maker_init => k_is); (case a3_Maker_init => k_is); (case a4_Maker_init => k_is); (case a1_Maker_open_letters => k_is); (case a5_Maker_open_letters => k_is); (case a2_Maker_open_letters => k_is); (case a3_Maker_open_letters => k_is); (case a4_Maker_open_letters => k_is); (case a1_Maker_make_plain => k_is); (case a5_Maker_make_plain => k_is); (case a2_Maker_make_plain => k_is); (case a3_Maker_make_plain => k_is); (case a4_Maker_make_plain => k_is); (case a1_Maker_tell_part => k_is); (case a5_Maker_tell_part => k_is); (case a2_Maker_tell_part => k_is); (case a3_Maker_tell_part => k_is); (case a4_Maker_tell_part => k_is); (case a1_Maker_put_sign => k_is); (case a5_Maker_put_sign => k_is); (case a2_Maker_put_sign => k_is); (case a3_Maker_put_sign => k_is); (case a4_Maker_put_sign => k_is); (case a1_Maker_put => k_is); (case a5_Maker_put => k_is); (case a2_Maker_put => k_is); (case a3_Maker_put => k_is); (case a4_Maker_put => k_is); (case a1_rows_of__X1 => k_is); (case a2_rows_of__X1 => k_is); (case a3_rows_of__X1 => k_is); (case a4_rows_of__X1 => k_is); (case a1_lw_cell => k_is); (case a2_lw_cell => k_is); (case a3_lw_cell => k_is); (case a4_lw_cell => k_is); (case a1_lw_mix => k_is); (case a2_lw_mix => k_is); (case a3_lw_mix => k_is); (case a4_lw_mix => k_is); (case a1_lw_parts => k_is); (case a2_lw_parts => k_is); (case a3_lw_parts => k_is); (case a4_lw_parts => k_is); (case a1_lw_whole__X1 => k_is); (case a2_lw_whole__X1 => k_is); (case a3_lw_whole__X1 => k_is); (case a4_lw_whole__X1 => k_is); (case a1_lw_whole => k_is); (case a2_lw_whole => k_is); (case a3_lw_whole => k_is); (case a4_lw_whole => k_is); (case a1_lw_letters_right => k_is); (case a2_lw_letters_right => k_is); (case a3_lw_letters_right => k_is); (case a4_lw_letters_right => k_is); (case a1_lw_parts_right => k_is); (case a2_lw_parts_right => k_is); (case a3_lw_parts_right => k_is); (case a4_lw_parts_right => k_is); (case a1_lw_bad_most => k_is); (case a2_lw_bad_most => k_is); (case a3_lw_bad_most => k_is); (case a4_lw_bad_most => k_is); (case a1_lw_word => k_is); (case a2_lw_word => k_is); (case a3_lw_word => k_is); (case a4_lw_word => k_is); (case a1_lw_asked => k_is); (case a2_lw_asked => k_is); (case a3_lw_asked => k_is); (case a4_lw_asked => k_is); (case a1_lw_made => k_is); (case a2_lw_made => k_is); (case a3_lw_made => k_is); (case a4_lw_made => k_is); (case a1_lw_by_turns => k_is); (case a2_lw_by_turns => k_is); (case a3_lw_by_turns => k_is); (case a4_lw_by_turns => k_is); (case a1_law => k_is); (case a2_law => k_is); (case a3_law => k_is); (case a4_law => k_is); (case z_ValueError => k_is); (case z_bool => k_is); (case z_enumerate => k_is); (case z_int => k_is); (case z_isinstance => k_is); (case z_len => k_is); (case z_list => k_is); (case z_range => k_is); (case z_str => k_is); (case z_tuple => k_is); (case z_zip => k_is); (case k_COLOURS => k_is); (case k_CONTROLS => k_is); (case k1_ENDS => k_is); (case k2_ENDS => k_is); (case k4_ENDS => rfl); (case k3_ENDS => repeat' (first | exact True.intro | exact ⟨_, rfl, rfl⟩ | exact ⟨_, rfl⟩ | refine ⟨?_, ?_, ?_⟩)); (case k_FIRST => k_is); (case k_LAST => k_is); (case k_MORE => k_is); (case k_MOST => k_is); (case k_PLAIN => k_is); (case k_WHOLE => k_is); (case pg_Reader => k_is); (case hd_Reader => k_is); (case po_Reader => k_is); (case sa_Reader => k_is); (case pg_Maker => k_is); (case hd_Maker => k_is); (case po_Maker => k_is); (case sa_Maker => k_is); (case na_Reader_kept => k_is); (case na_Reader_place => k_is); (case mi_Reader => k_is); (case kc_Reader => k_is); (case na_Maker_most => k_is); (case na_Maker_row => k_is); (case na_Maker_ink => k_is); (case na_Maker_ground => k_is); (case na_Maker_stale => k_is); (case na_Maker_more => k_is); (case mi_Maker__X1 => k_is); (case kc_Maker__X1 => k_is); (case mi_Maker => k_is); (case kc_Maker => k_is)


