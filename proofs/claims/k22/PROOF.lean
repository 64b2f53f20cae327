import PyProof.Rows.All
import Wide.All
import OpenK.AllK
import Wide.FinOn
import HandS.ForMost
import HandS.ForExc
import HandS.Wide
import HandS.EndBits
import HandS.Flow
import HandS.Style
import HandS.Zip
import HandS.Deep
import HandS.Codes
import HandS.IsInst
import HandS.FStr
import HandS.Conv
import HandS.TupAny
import HandS.Walk
import HandS.Dict
import PyProof.Draws
import HandS.More
import HandS.NoneIn
import KE.DatumOrd
import PyProof.Rows.RowBridgeK
import HandS.TupLen
import KE.SortData
import PySem.Challenge.RW_outweave_k22_inks_and_grounds
set_option Elab.async false
set_option synthInstance.maxSize 10000
set_option linter.all false
set_option maxRecDepth 100000
set_option exponentiation.threshold 20000
set_option maxHeartbeats 4000000
/-! LI: data as trees with owners; a def's worth as a plain function of data. -/
namespace LI
open PySem L2

/-- data: a tree; at a list, a dict, an instance a flag tells whether it is owned (may be changed) -/
inductive D where
  | gone
  | non
  | bl (b : Bool)
  | int (i : Int)
  | str (s : List Nat)
  | scr (ns : List Int)
  | kst (ss : List (List Nat))
  | key (ks : List Key)
  | tup (ds : List D)
  | lst (o : Bool) (ds : List D)
  | dK (o : Bool) (ks : List Key) (ds : List D)
  | dT (o : Bool) (ks : List (List Key)) (ds : List D)
  | obj (o : Bool) (c : Nat) (fs : List Str) (ds : List D)

abbrev FP := Addr → Nat
def one (a : Addr) : FP := fun b => if b = a then 1 else 0
def fz : FP := fun _ => 0
def fa (S T : FP) : FP := fun b => S b + T b
def Ex (H H' : Hp) : Prop := ∀ a o, H a = some o → H' a = some o
theorem Ex.refl (H : Hp) : Ex H H := fun _ _ h => h
theorem Ex.trans {H H1 H2 : Hp} (a : Ex H H1) (b : Ex H1 H2) : Ex H H2 := fun x o h => b x o (a x o h)

/-- the text's part and its classes by number -/
structure LC where
  K : PySem.W.Frag
  cl : Nat → Addr

mutual
def Rep (c : LC) (P H : Hp) : D → V → FP → Prop
  | .gone, _, S => S = fz
  | .non, v, S => v = .non ∧ S = fz
  | .bl b, v, S => v = .bl b ∧ S = fz
  | .int i, v, S => v = .int i ∧ S = fz
  | .str s, v, S => v = .str ⟨s.toArray⟩ ∧ S = fz
  | .scr ns, v, S => ∃ a, v = .ref a ∧ SqL c.K P a (ns.map V.int) ∧ S = fz
  | .kst ss, v, S => ∃ a, v = .ref a ∧ SqT c.K P a (ss.map fun s => V.str ⟨s.toArray⟩) ∧ S = fz
  | .key ks, v, S => ∃ a, v = .ref a ∧ P a = some (.tup (ks.map kV)) ∧ S = fz
  | .tup ds, v, S => ∃ a xs, v = .ref a ∧ SqT c.K P a xs ∧ RepL c P H ds xs S
  | .lst true ds, v, S => ∃ a xs T, v = .ref a ∧ H a = some (.lst xs) ∧ RepL c P H ds xs T ∧ S = fa (one a) T
  | .lst false ds, v, S => ∃ a xs, v = .ref a ∧ P a = some (.lst xs) ∧ RepL c P H ds xs S
  | .dK true ks ds, v, S => ∃ a xs T, v = .ref a ∧ H a = some (.dK (ks.zip xs)) ∧ ks.length = xs.length ∧ RepL c P H ds xs T ∧ S = fa (one a) T
  | .dK false ks ds, v, S => ∃ a xs, v = .ref a ∧ P a = some (.dK (ks.zip xs)) ∧ ks.length = xs.length ∧ RepL c P H ds xs S
  | .dT true ks ds, v, S => ∃ a xs T, v = .ref a ∧ H a = some (.dT (ks.zip xs)) ∧ ks.length = xs.length ∧ RepL c P H ds xs T ∧ S = fa (one a) T
  | .dT false ks ds, v, S => ∃ a xs, v = .ref a ∧ P a = some (.dT (ks.zip xs)) ∧ ks.length = xs.length ∧ RepL c P H ds xs S
  | .obj true k fs ds, v, S => ∃ a dx xs T, v = .ref a ∧ H a = some (.ins (c.cl k) dx (fs.zip xs)) ∧ fs.length = xs.length ∧ RepL c P H ds xs T ∧ S = fa (one a) T
  | .obj false k fs ds, v, S => ∃ a dx xs, v = .ref a ∧ P a = some (.ins (c.cl k) dx (fs.zip xs)) ∧ fs.length = xs.length ∧ RepL c P H ds xs S
def RepL (c : LC) (P H : Hp) : List D → List V → FP → Prop
  | [], xs, S => xs = [] ∧ S = fz
  | d :: ds, xs, S => ∃ y ys T U, xs = y :: ys ∧ Rep c P H d y T ∧ RepL c P H ds ys U ∧ S = fa T U
end

mutual
/-- nothing in it is owned -/
def frz : D → Bool
  | .tup ds => frzL ds
  | .lst o ds => !o && frzL ds
  | .dK o _ ds => !o && frzL ds
  | .dT o _ ds => !o && frzL ds
  | .obj o _ _ ds => !o && frzL ds
  | _ => true
def frzL : List D → Bool
  | [] => true
  | d :: ds => frz d && frzL ds
end
mutual
/-- the same, owned by none -/
def ice : D → D
  | .tup ds => .tup (iceL ds)
  | .lst _ ds => .lst false (iceL ds)
  | .dK _ ks ds => .dK false ks (iceL ds)
  | .dT _ ks ds => .dT false ks (iceL ds)
  | .obj _ k fs ds => .obj false k fs (iceL ds)
  | d => d
def iceL : List D → List D
  | [] => []
  | d :: ds => ice d :: iceL ds
end
theorem fa_fz (S : FP) : fa S fz = S := by funext b; simp [fa, fz]
theorem fz_fa (S : FP) : fa fz S = S := by funext b; simp [fa, fz]

theorem sqt_mono {K : PySem.W.Frag} {H H' : Hp} {a : Addr} {xs : List V} (e : Ex H H') (h : SqT K H a xs) : SqT K H' a xs := by
  rcases h with (h | ⟨o, h⟩) | h
  · exact .inl (.inl (e _ _ h))
  · exact .inl (.inr ⟨o, e _ _ h⟩)
  · exact .inr h
theorem sql_mono {K : PySem.W.Frag} {H H' : Hp} {a : Addr} {xs : List V} (e : Ex H H') (h : SqL K H a xs) : SqL K H' a xs := by
  rcases h with (h | ⟨o, h⟩) | h
  · exact .inl (.inl (e _ _ h))
  · exact .inl (.inr ⟨o, e _ _ h⟩)
  · exact .inr h

mutual
theorem Rep.mono {c : LC} {P H P' H' : Hp} (eP : Ex P P') : ∀ (d : D) (v : V) (S : FP), (∀ a o, 0 < S a → H a = some o → H' a = some o) → Rep c P H d v S → Rep c P' H' d v S
  | .gone, v, S, _, h => h
  | .non, v, S, _, h => h
  | .bl _, v, S, _, h => h
  | .int _, v, S, _, h => h
  | .str _, v, S, _, h => h
  | .scr ns, v, S, k, ⟨a, e, q, z⟩ => ⟨a, e, sql_mono eP q, z⟩
  | .kst ss, v, S, k, ⟨a, e, q, z⟩ => ⟨a, e, sqt_mono eP q, z⟩
  | .key ks, v, S, k, ⟨a, e, q, z⟩ => ⟨a, e, eP _ _ q, z⟩
  | .tup ds, v, S, k, ⟨a, xs, e, q, r⟩ => ⟨a, xs, e, sqt_mono eP q, RepL.mono eP ds xs S k r⟩
  | .lst true ds, v, S, k, ⟨a, xs, T, e, q, r, f⟩ => ⟨a, xs, T, e, k _ _ (by rw [f]; simp [fa, one]; omega) q, RepL.mono eP ds xs T (fun b o hb => k b o (by rw [f]; simp only [fa]; omega)) r, f⟩
  | .lst false ds, v, S, k, ⟨a, xs, e, q, r⟩ => ⟨a, xs, e, eP _ _ q, RepL.mono eP ds xs S k r⟩
  | .dK true ks ds, v, S, k, ⟨a, xs, T, e, q, n, r, f⟩ => ⟨a, xs, T, e, k _ _ (by rw [f]; simp [fa, one]; omega) q, n, RepL.mono eP ds xs T (fun b o hb => k b o (by rw [f]; simp only [fa]; omega)) r, f⟩
  | .dK false ks ds, v, S, k, ⟨a, xs, e, q, n, r⟩ => ⟨a, xs, e, eP _ _ q, n, RepL.mono eP ds xs S k r⟩
  | .dT true ks ds, v, S, k, ⟨a, xs, T, e, q, n, r, f⟩ => ⟨a, xs, T, e, k _ _ (by rw [f]; simp [fa, one]; omega) q, n, RepL.mono eP ds xs T (fun b o hb => k b o (by rw [f]; simp only [fa]; omega)) r, f⟩
  | .dT false ks ds, v, S, k, ⟨a, xs, e, q, n, r⟩ => ⟨a, xs, e, eP _ _ q, n, RepL.mono eP ds xs S k r⟩
  | .obj true _ fs ds, v, S, k, ⟨a, dx, xs, T, e, q, n, r, f⟩ => ⟨a, dx, xs, T, e, k _ _ (by rw [f]; simp [fa, one]; omega) q, n, RepL.mono eP ds xs T (fun b o hb => k b o (by rw [f]; simp only [fa]; omega)) r, f⟩
  | .obj false _ fs ds, v, S, k, ⟨a, dx, xs, e, q, n, r⟩ => ⟨a, dx, xs, e, eP _ _ q, n, RepL.mono eP ds xs S k r⟩
theorem RepL.mono {c : LC} {P H P' H' : Hp} (eP : Ex P P') : ∀ (ds : List D) (xs : List V) (S : FP), (∀ a o, 0 < S a → H a = some o → H' a = some o) → RepL c P H ds xs S → RepL c P' H' ds xs S
  | [], xs, S, _, h => h
  | d :: ds, xs, S, k, ⟨y, ys, T, U, e, r, rs, f⟩ => ⟨y, ys, T, U, e, Rep.mono eP d y T (fun b o hb => k b o (by rw [f]; simp only [fa]; omega)) r, RepL.mono eP ds ys U (fun b o hb => k b o (by rw [f]; simp only [fa]; omega)) rs, f⟩
end
mutual
theorem Rep.frz0 {c : LC} {P H : Hp} : ∀ (d : D) (v : V) (S : FP), frz d = true → Rep c P H d v S → S = fz
  | .gone, v, S, _, h => h
  | .non, v, S, _, h => h.2
  | .bl _, v, S, _, h => h.2
  | .int _, v, S, _, h => h.2
  | .str _, v, S, _, h => h.2
  | .scr ns, v, S, k, ⟨a, e, q, z⟩ => z
  | .kst ss, v, S, k, ⟨a, e, q, z⟩ => z
  | .key ks, v, S, k, ⟨a, e, q, z⟩ => z
  | .tup ds, v, S, k, ⟨a, xs, e, q, r⟩ => RepL.frz0 ds xs S k r
  | .lst true ds, v, S, k, _ => by simp [frz] at k
  | .lst false ds, v, S, k, ⟨a, xs, e, q, r⟩ => RepL.frz0 ds xs S (by simpa [frz] using k) r
  | .dK true ks ds, v, S, k, _ => by simp [frz] at k
  | .dK false ks ds, v, S, k, ⟨a, xs, e, q, n, r⟩ => RepL.frz0 ds xs S (by simpa [frz] using k) r
  | .dT true ks ds, v, S, k, _ => by simp [frz] at k
  | .dT false ks ds, v, S, k, ⟨a, xs, e, q, n, r⟩ => RepL.frz0 ds xs S (by simpa [frz] using k) r
  | .obj true _ fs ds, v, S, k, _ => by simp [frz] at k
  | .obj false _ fs ds, v, S, k, ⟨a, dx, xs, e, q, n, r⟩ => RepL.frz0 ds xs S (by simpa [frz] using k) r
theorem RepL.frz0 {c : LC} {P H : Hp} : ∀ (ds : List D) (xs : List V) (S : FP), frzL ds = true → RepL c P H ds xs S → S = fz
  | [], xs, S, _, h => h.2
  | d :: ds, xs, S, k, ⟨y, ys, T, U, e, r, rs, f⟩ => by
    simp only [frzL, Bool.and_eq_true] at k
    rw [f, Rep.frz0 d y T k.1 r, RepL.frz0 ds ys U k.2 rs, fa_fz]
end
mutual
theorem Rep.ice {c : LC} {P H P' H' : Hp} (eP : Ex P P') : ∀ (d : D) (v : V) (S : FP), (∀ a o, 0 < S a → H a = some o → P' a = some o) → Rep c P H d v S → Rep c P' H' (ice d) v fz
  | .gone, v, S, _, h => rfl
  | .non, v, S, _, h => ⟨h.1, rfl⟩
  | .bl _, v, S, _, h => ⟨h.1, rfl⟩
  | .int _, v, S, _, h => ⟨h.1, rfl⟩
  | .str _, v, S, _, h => ⟨h.1, rfl⟩
  | .scr ns, v, S, k, ⟨a, e, q, z⟩ => ⟨a, e, sql_mono eP q, rfl⟩
  | .kst ss, v, S, k, ⟨a, e, q, z⟩ => ⟨a, e, sqt_mono eP q, rfl⟩
  | .key ks, v, S, k, ⟨a, e, q, z⟩ => ⟨a, e, eP _ _ q, rfl⟩
  | .tup ds, v, S, k, ⟨a, xs, e, q, r⟩ => ⟨a, xs, e, sqt_mono eP q, RepL.ice eP ds xs S k r⟩
  | .lst true ds, v, S, k, ⟨a, xs, T, e, q, r, f⟩ => ⟨a, xs, e, k _ _ (by rw [f]; simp [fa, one]; omega) q, RepL.ice eP ds xs T (fun b o hb => k b o (by rw [f]; simp only [fa]; omega)) r⟩
  | .lst false ds, v, S, k, ⟨a, xs, e, q, r⟩ => ⟨a, xs, e, eP _ _ q, RepL.ice eP ds xs S k r⟩
  | .dK true ks ds, v, S, k, ⟨a, xs, T, e, q, n, r, f⟩ => ⟨a, xs, e, k _ _ (by rw [f]; simp [fa, one]; omega) q, n, RepL.ice eP ds xs T (fun b o hb => k b o (by rw [f]; simp only [fa]; omega)) r⟩
  | .dK false ks ds, v, S, k, ⟨a, xs, e, q, n, r⟩ => ⟨a, xs, e, eP _ _ q, n, RepL.ice eP ds xs S k r⟩
  | .dT true ks ds, v, S, k, ⟨a, xs, T, e, q, n, r, f⟩ => ⟨a, xs, e, k _ _ (by rw [f]; simp [fa, one]; omega) q, n, RepL.ice eP ds xs T (fun b o hb => k b o (by rw [f]; simp only [fa]; omega)) r⟩
  | .dT false ks ds, v, S, k, ⟨a, xs, e, q, n, r⟩ => ⟨a, xs, e, eP _ _ q, n, RepL.ice eP ds xs S k r⟩
  | .obj true _ fs ds, v, S, k, ⟨a, dx, xs, T, e, q, n, r, f⟩ => ⟨a, dx, xs, e, k _ _ (by rw [f]; simp [fa, one]; omega) q, n, RepL.ice eP ds xs T (fun b o hb => k b o (by rw [f]; simp only [fa]; omega)) r⟩
  | .obj false _ fs ds, v, S, k, ⟨a, dx, xs, e, q, n, r⟩ => ⟨a, dx, xs, e, eP _ _ q, n, RepL.ice eP ds xs S k r⟩
theorem RepL.ice {c : LC} {P H P' H' : Hp} (eP : Ex P P') : ∀ (ds : List D) (xs : List V) (S : FP), (∀ a o, 0 < S a → H a = some o → P' a = some o) → RepL c P H ds xs S → RepL c P' H' (iceL ds) xs fz
  | [], xs, S, _, h => ⟨h.1, rfl⟩
  | d :: ds, xs, S, k, ⟨y, ys, T, U, e, r, rs, f⟩ => ⟨y, ys, fz, fz, e, Rep.ice eP d y T (fun b o hb => k b o (by rw [f]; simp only [fa]; omega)) r, RepL.ice eP ds ys U (fun b o hb => k b o (by rw [f]; simp only [fa]; omega)) rs, (fa_fz fz).symm⟩
end
mutual
/-- what is owned stands in the heap -/
theorem Rep.there {c : LC} {P H : Hp} : ∀ (d : D) (v : V) (S : FP), Rep c P H d v S → ∀ a, 0 < S a → H a ≠ none
  | .gone, v, S, h => fun a p => by rw [show S = fz from h] at p; simp [fz] at p
  | .non, v, S, h => fun a p => by rw [h.2] at p; simp [fz] at p
  | .bl _, v, S, h => fun a p => by rw [h.2] at p; simp [fz] at p
  | .int _, v, S, h => fun a p => by rw [h.2] at p; simp [fz] at p
  | .str _, v, S, h => fun a p => by rw [h.2] at p; simp [fz] at p
  | .scr ns, v, S, ⟨a, e, q, z⟩ => fun b p => by rw [z] at p; simp [fz] at p
  | .kst ss, v, S, ⟨a, e, q, z⟩ => fun b p => by rw [z] at p; simp [fz] at p
  | .key ks, v, S, ⟨a, e, q, z⟩ => fun b p => by rw [z] at p; simp [fz] at p
  | .tup ds, v, S, ⟨a, xs, e, q, r⟩ => RepL.there ds xs S r
  | .lst true ds, v, S, ⟨a, xs, T, e, q, r, f⟩ => fun b p => by
    by_cases z : b = a
    · rw [z, q]; simp
    · exact RepL.there ds xs T r b (by rw [f] at p; simpa [fa, one, z] using p)
  | .lst false ds, v, S, ⟨a, xs, e, q, r⟩ => RepL.there ds xs S r
  | .dK true ks ds, v, S, ⟨a, xs, T, e, q, n, r, f⟩ => fun b p => by
    by_cases z : b = a
    · rw [z, q]; simp
    · exact RepL.there ds xs T r b (by rw [f] at p; simpa [fa, one, z] using p)
  | .dK false ks ds, v, S, ⟨a, xs, e, q, n, r⟩ => RepL.there ds xs S r
  | .dT true ks ds, v, S, ⟨a, xs, T, e, q, n, r, f⟩ => fun b p => by
    by_cases z : b = a
    · rw [z, q]; simp
    · exact RepL.there ds xs T r b (by rw [f] at p; simpa [fa, one, z] using p)
  | .dT false ks ds, v, S, ⟨a, xs, e, q, n, r⟩ => RepL.there ds xs S r
  | .obj true _ fs ds, v, S, ⟨a, dx, xs, T, e, q, n, r, f⟩ => fun b p => by
    by_cases z : b = a
    · rw [z, q]; simp
    · exact RepL.there ds xs T r b (by rw [f] at p; simpa [fa, one, z] using p)
  | .obj false _ fs ds, v, S, ⟨a, dx, xs, e, q, n, r⟩ => RepL.there ds xs S r
theorem RepL.there {c : LC} {P H : Hp} : ∀ (ds : List D) (xs : List V) (S : FP), RepL c P H ds xs S → ∀ a, 0 < S a → H a ≠ none
  | [], xs, S, h => fun a p => by rw [h.2] at p; simp [fz] at p
  | d :: ds, xs, S, ⟨y, ys, T, U, e, r, rs, f⟩ => fun a p => by
    rw [f] at p
    by_cases z : 0 < T a
    · exact Rep.there d y T r a z
    · exact RepL.there ds ys U rs a (by simp only [fa] at p; omega)
end
end LI
namespace LI
open PySem L2

/-- a def's entry -/
structure En where
  P0 : Hp
  H0 : Hp
  S0 : FP
  kp : List Bool
  vs : List V
  hv : ∀ i : Nat, kp[i]? = some true → ∃ v, vs[i]? = some v

def RepO (c : LC) (P H : Hp) (d : D) : Option V → FP → Prop
  | some v, T => Rep c P H d v T
  | none, T => d = .gone ∧ T = fz
def RepE (c : LC) (P H : Hp) : List D → St → FP → Prop
  | [], [], S => S = fz
  | d :: ds, ov :: σ, S => ∃ T U, RepO c P H d ov T ∧ RepE c P H ds σ U ∧ S = fa T U
  | _, _, _ => False

/-- the world: P what is fixed, S what the slots own, T what waits aside -/
structure Wd (c : LC) (E : En) (P : Hp) (S T : FP) (σ : St) (H : Hp) (ρ : List D) : Prop where
  env : RepE c P H ρ σ S
  le : ∀ a, S a + T a ≤ 1
  out : ∀ a, 0 < S a + T a → P a = none
  th : ∀ a, 0 < T a → H a ≠ none
  ph : Ex P H
  p0 : Ex E.P0 P
  fr : ∀ a o, E.S0 a = 0 → E.H0 a = some o → H a = some o
  np : ∀ a, P a ≠ none → E.P0 a ≠ none ∨ 0 < E.S0 a ∨ E.H0 a = none
  ns : ∀ a, 0 < S a + T a → 0 < E.S0 a ∨ E.H0 a = none
  kp : ∀ (i : Nat) (v : V), E.kp[i]? = some true → E.vs[i]? = some v → σ[i]? = some (some v)

/-- the heap grows -/
structure Gr (P H P' H' : Hp) : Prop where
  p : Ex P P'
  h : Ex H H'
  ph : Ex P' H'
  new : ∀ a, P' a ≠ none → P a ≠ none ∨ H a = none
theorem Gr.refl {P H : Hp} (e : Ex P H) : Gr P H P H := ⟨.refl _, .refl _, e, fun _ h => .inl h⟩
theorem Gr.trans {P H P1 H1 P2 H2 : Hp} (a : Gr P H P1 H1) (b : Gr P1 H1 P2 H2) : Gr P H P2 H2 :=
  ⟨a.p.trans b.p, a.h.trans b.h, b.ph, fun x h => by
    rcases b.new x h with q | q
    · exact a.new x q
    · cases z : H x with
      | none => exact .inr rfl
      | some o => rw [a.h x o z] at q; cases q⟩

theorem RepO.mono {c : LC} {P H P' H' : Hp} (eP : Ex P P') {d : D} {v : Option V} {S : FP} (k : ∀ a o, 0 < S a → H a = some o → H' a = some o) (h : RepO c P H d v S) : RepO c P' H' d v S := by
  cases v with
  | none => exact h
  | some v => exact Rep.mono eP d v S k h
theorem RepE.mono {c : LC} {P H P' H' : Hp} (eP : Ex P P') : ∀ (ρ : List D) (σ : St) (S : FP), (∀ a o, 0 < S a → H a = some o → H' a = some o) → RepE c P H ρ σ S → RepE c P' H' ρ σ S
  | [], [], S, _, h => h
  | d :: ds, v :: σ, S, k, ⟨T, U, r, rs, f⟩ => ⟨T, U, RepO.mono eP (fun b o hb => k b o (by rw [f]; simp only [fa]; omega)) r, RepE.mono eP ds σ U (fun b o hb => k b o (by rw [f]; simp only [fa]; omega)) rs, f⟩
  | [], _ :: _, _, _, h => h.elim
  | _ :: _, [], _, _, h => h.elim
theorem RepO.there {c : LC} {P H : Hp} {d : D} {v : Option V} {S : FP} (h : RepO c P H d v S) : ∀ a, 0 < S a → H a ≠ none := by
  cases v with
  | none => intro a p; rw [h.2] at p; simp [fz] at p
  | some v => exact Rep.there d v S h
theorem RepE.there {c : LC} {P H : Hp} : ∀ (ρ : List D) (σ : St) (S : FP), RepE c P H ρ σ S → ∀ a, 0 < S a → H a ≠ none
  | [], [], S, h => fun a p => by rw [show S = fz from h] at p; simp [fz] at p
  | d :: ds, v :: σ, S, ⟨T, U, r, rs, f⟩ => fun a p => by
    rw [f] at p
    by_cases z : 0 < T a
    · exact r.there a z
    · exact RepE.there ds σ U rs a (by simp only [fa] at p; omega)
  | [], _ :: _, _, h => h.elim
  | _ :: _, [], _, h => h.elim
theorem RepE.len {c : LC} {P H : Hp} : ∀ (ρ : List D) (σ : St) (S : FP), RepE c P H ρ σ S → ρ.length = σ.length
  | [], [], _, _ => rfl
  | _ :: ds, _ :: σ, _, ⟨_, U, _, rs, _⟩ => by simp [RepE.len ds σ U rs]
  | [], _ :: _, _, h => h.elim
  | _ :: _, [], _, h => h.elim

section
variable {c : LC} {E : En} {P P' : Hp} {S T : FP} {σ : St} {H H' : Hp} {ρ : List D}
theorem Wd.grow (w : Wd c E P S T σ H ρ) (g : Gr P H P' H') : Wd c E P' S T σ H' ρ where
  env := w.env.mono g.p ρ σ S (fun a o _ h => g.h a o h)
  le := w.le
  out := fun a h => by
    cases z : P' a with
    | none => rfl
    | some o =>
      rcases g.new a (by rw [z]; simp) with q | q
      · exact absurd (w.out a h) q
      · by_cases hT : 0 < T a
        · exact absurd q (w.th a hT)
        · exact absurd q (RepE.there ρ σ S w.env a (by omega))
  th := fun a h z => by
    cases q : H a with
    | none => exact w.th a h q
    | some o => rw [g.h a o q] at z; cases z
  ph := g.ph
  p0 := w.p0.trans g.p
  fr := fun a o h1 h2 => g.h a o (w.fr a o h1 h2)
  np := fun a h => by
    rcases g.new a h with q | q
    · exact w.np a q
    · cases z : E.H0 a with
      | none => exact .inr (.inr rfl)
      | some o =>
        by_cases hs : E.S0 a = 0
        · rw [w.fr a o hs z] at q; cases q
        · exact .inr (.inl (by omega))
  ns := w.ns
  kp := w.kp
/-- something new waits aside -/
theorem Wd.aside (w : Wd c E P S T σ H ρ) (g : Gr P H P' H') {U : FP} (h1 : ∀ a, U a ≤ 1) (h2 : ∀ a, 0 < U a → H a = none ∧ P' a = none) (h3 : ∀ a, 0 < U a → H' a ≠ none) : Wd c E P' S (fa T U) σ H' ρ := by
  have w' := w.grow g
  have hS : ∀ a, 0 < U a → S a = 0 ∧ T a = 0 := fun a h => by
    have n := (h2 a h).1
    refine ⟨?_, ?_⟩
    · rcases Nat.eq_zero_or_pos (S a) with z | z
      · exact z
      · exact absurd n (RepE.there ρ σ S w.env a z)
    · rcases Nat.eq_zero_or_pos (T a) with z | z
      · exact z
      · exact absurd n (w.th a z)
  refine ⟨w'.env, fun a => ?_, fun a h => ?_, fun a h => ?_, w'.ph, w'.p0, w'.fr, w'.np, fun a h => ?_, w'.kp⟩
  · by_cases z : 0 < U a
    · have := hS a z; have := h1 a; simp only [fa]; omega
    · have := w.le a; simp only [fa]; omega
  · by_cases z : 0 < U a
    · exact (h2 a z).2
    · exact w'.out a (by simp only [fa] at h; omega)
  · by_cases z : 0 < U a
    · exact h3 a z
    · exact w'.th a (by simp only [fa] at h; omega)
  · by_cases z : 0 < U a
    · have n := (h2 a z).1
      cases q : E.H0 a with
      | none => exact .inr rfl
      | some o =>
        by_cases hs : E.S0 a = 0
        · rw [w.fr a o hs q] at n; cases n
        · exact .inl (by omega)
    · exact w'.ns a (by simp only [fa] at h; omega)
end

/-! ### what an expression is worth -/
abbrev RM := List D → Option D
abbrev GM := List D → Option (D × List D)
abbrev BM := List D → Option Bool
abbrev BGM := List D → Option (Bool × List D)
def RQ (c : LC) (P H : Hp) (d : D) (Q : VK) : Prop := ∀ v H' P' U, Gr P H P' H' → Rep c P' H' d v U → Q v H'
def FQ (c : LC) (P H : Hp) (d : D) (Q : VK) : Prop := ∀ v H' P' U, Gr P H P' H' → Rep c P' H' d v U → (∀ a, U a ≤ 1) → (∀ a, 0 < U a → H a = none ∧ P' a = none) → Q v H'
/-- a view -/
def tR (c : LC) (E : En) (m : RM) : TE := fun σ H Q => ∃ P S T ρ d, Wd c E P S T σ H ρ ∧ m ρ = some d ∧ RQ c P H d Q
/-- a new thing, or a flat one -/
def tF (c : LC) (E : En) (m : RM) : TE := fun σ H Q => ∃ P S T ρ d, Wd c E P S T σ H ρ ∧ m ρ = some d ∧ FQ c P H d Q
/-- with changes -/
def tG (c : LC) (E : En) (m : GM) : TE := fun σ H Q => ∃ P S T ρ d ρ', Wd c E P S T σ H ρ ∧ m ρ = some (d, ρ') ∧
  ∀ v H' P' S' U, Wd c E P' S' (fa T U) σ H' ρ' → Ex P P' → Rep c P' H' d v U → (∀ a o, 0 < T a → H a = some o → H' a = some o) → Q v H'
def tT (c : LC) (E : En) (m : BM) : TT := fun σ H Q => ∃ P S T ρ b, Wd c E P S T σ H ρ ∧ m ρ = some b ∧ ∀ H' P', Gr P H P' H' → Q b H'
def tTG (c : LC) (E : En) (m : BGM) : TT := fun σ H Q => ∃ P S T ρ b ρ', Wd c E P S T σ H ρ ∧ m ρ = some (b, ρ') ∧
  ∀ H' P' S', Wd c E P' S' T σ H' ρ' → Ex P P' → (∀ a o, 0 < T a → H a = some o → H' a = some o) → Q b H'

theorem PE_imp {X : Cx} {e : Expr} {t t' : TE} (h : PE X e t) (k : ∀ σ H Q, t' σ H Q → t σ H Q) : PE X e t' := ⟨fun pins s σ H Q I q => h.run pins s σ H Q I (k σ H Q q)⟩
theorem PT_imp {X : Cx} {e : Expr} {t t' : TT} (h : PT X e t) (k : ∀ σ H Q, t' σ H Q → t σ H Q) : PT X e t' := ⟨fun pins s σ H Q I q => h.run pins s σ H Q I (k σ H Q q)⟩
theorem PW_imp {X : Cx} {e : Expr} {t t' : TT} (h : PW X e t) (k : ∀ σ H Q, t' σ H Q → t σ H Q) : PW X e t' := ⟨fun whole pins s σ H Q I q => h.run whole pins s σ H Q I (k σ H Q q)⟩
theorem PA_imp {X : Cx} {e : List Expr} {t t' : TA} (h : PA X e t) (k : ∀ σ H Q, t' σ H Q → t σ H Q) : PA X e t' := ⟨fun pos pins s σ H Q I q => h.run pos pins s σ H Q I (k σ H Q q)⟩
theorem PS_imp {X : Cx} {e : Stmt} {t t' : TS} (h : PS X e t) (k : ∀ D σ H, t' D σ H → t D σ H) : PS X e t' := ⟨fun pins s σ H D I q => h.run pins s σ H D I (k D σ H q)⟩
theorem PSs_imp {X : Cx} {e : List Stmt} {t t' : TS} (h : PSs X e t) (k : ∀ D σ H, t' D σ H → t D σ H) : PSs X e t' := ⟨fun pins s σ H D I q => h.run pins s σ H D I (k D σ H q)⟩

section
variable {c : LC} {E : En} {P P' : Hp} {S T : FP} {σ : St} {H H' : Hp} {ρ : List D} {X : Cx} {e : Expr} {m : RM}
theorem FQ.of_R {d : D} {Q : VK} (h : RQ c P H d Q) : FQ c P H d Q := fun v H' P' U g r _ _ => h v H' P' U g r
/-- a flat value -/
theorem FQ.flat {d : D} {v : V} {Q : VK} (h : FQ c P H d Q) (e : Ex P H) (r : Rep c P H d v fz) : Q v H :=
  h v H P fz (.refl e) r (fun _ => Nat.zero_le _) fun a p => by simp [fz] at p
theorem r_f (h : PE X e (tF c E m)) : PE X e (tR c E m) := PE_imp h fun σ H Q ⟨P, S, T, ρ, d, w, hm, q⟩ => ⟨P, S, T, ρ, d, w, hm, .of_R q⟩
def upF (m : RM) : GM := fun ρ => (m ρ).map fun d => (d, ρ)
def upR (m : RM) : GM := fun ρ => (m ρ).bind fun d => if frz d = true then some (d, ρ) else none
theorem g_f (h : PE X e (tF c E m)) : PE X e (tG c E (upF m)) := PE_imp h fun σ H Q ⟨P, S, T, ρ, d, ρ', w, hm, q⟩ => by
  unfold upF at hm
  cases hd : m ρ with
  | none => rw [hd] at hm; cases hm
  | some d1 =>
    rw [hd] at hm
    cases hm
    exact ⟨P, S, T, ρ, d, w, hd, fun v H' P' U g r u1 u2 => q v H' P' S U (w.aside g u1 u2 (Rep.there d v U r)) g.p r fun a o _ h => g.h a o h⟩
theorem g_r (h : PE X e (tR c E m)) : PE X e (tG c E (upR m)) := PE_imp h fun σ H Q ⟨P, S, T, ρ, d, ρ', w, hm, q⟩ => by
  unfold upR at hm
  cases hd : m ρ with
  | none => rw [hd] at hm; cases hm
  | some d1 =>
    rw [hd] at hm
    simp only [Option.bind_some] at hm
    split at hm
    · rename_i hf
      cases hm
      refine ⟨P, S, T, ρ, d, w, hd, fun v H' P' U g r => ?_⟩
      have e := Rep.frz0 d v U hf r
      subst e
      exact q v H' P' S fz (w.aside g (fun _ => Nat.zero_le _) (fun a p => by simp [fz] at p) (fun a p => by simp [fz] at p)) g.p r fun a o _ h => g.h a o h
    · cases hm
/-- a new thing that is left to none -/
def coldM (m : RM) : RM := fun ρ => (m ρ).map ice
theorem f_cold (h : PE X e (tF c E m)) : PE X e (tF c E (coldM m)) := PE_imp h fun σ H Q ⟨P, S, T, ρ, d, w, hm, q⟩ => by
  unfold coldM at hm
  cases hd : m ρ with
  | none => rw [hd] at hm; cases hm
  | some d1 =>
    rw [hd] at hm
    cases hm
    refine ⟨P, S, T, ρ, d1, w, hd, fun v H' P' U g r u1 u2 => ?_⟩
    have r2 : Rep c (fun a => if 0 < U a then H' a else P' a) H' (ice d1) v fz := Rep.ice (fun a o z => by
        by_cases hu : 0 < U a
        · rw [(u2 a hu).2] at z; cases z
        · simp [hu, z]) d1 v U (fun a o hu hh => by simp [hu, hh]) r
    refine q v H' _ fz ⟨fun a o z => ?_, g.h, fun a o z => ?_, fun a z => ?_⟩ r2 (fun _ => Nat.zero_le _) (fun a p => by simp [fz] at p)
    · by_cases hu : 0 < U a
      · have := (u2 a hu).2; rw [g.p a o z] at this; cases this
      · simp [hu, g.p a o z]
    · by_cases hu : 0 < U a
      · simpa [hu] using z
      · exact g.ph a o (by simpa [hu] using z)
    · by_cases hu : 0 < U a
      · exact .inr (u2 a hu).1
      · exact g.new a (by simpa [hu] using z)
end
end LI
namespace LI
open PySem L2

def LIM : Nat := 4000000
theorem lim_le {n : Nat} (h : n ≤ LIM) : n ≤ sizeLine := Nat.le_trans h (by decide)
theorem lim_lt {n : Nat} (h : n < LIM) : n < sizeLine := Nat.lt_of_lt_of_le h (by decide)

/-! ### lists of things -/
theorem RepL.length {c : LC} {P H : Hp} : ∀ {ds : List D} {xs : List V} {S : FP}, RepL c P H ds xs S → ds.length = xs.length
  | [], xs, S, h => by rw [h.1]; rfl
  | d :: ds, xs, S, ⟨y, ys, T, U, e, _, rs, _⟩ => by rw [e]; simp [RepL.length rs]
theorem RepL.append {c : LC} {P H : Hp} : ∀ {ds es : List D} {xs ys : List V} {S T : FP}, RepL c P H ds xs S → RepL c P H es ys T → RepL c P H (ds ++ es) (xs ++ ys) (fa S T)
  | [], es, xs, ys, S, T, h, k => by rw [h.1, h.2, fz_fa]; exact k
  | d :: ds, es, xs, ys, S, T, ⟨y, zs, A, B, e, r, rs, f⟩, k => by
    rw [e, f]
    exact ⟨y, zs ++ ys, A, fa B T, rfl, r, RepL.append rs k, by funext a; simp only [fa]; omega⟩
theorem RepL.get {c : LC} {P H : Hp} : ∀ {ds : List D} {xs : List V} {S : FP} {i : Nat} {d : D}, RepL c P H ds xs S → ds[i]? = some d → ∃ x T, xs[i]? = some x ∧ Rep c P H d x T ∧ ∀ a, T a ≤ S a
  | [], xs, S, i, d, h, e => by simp at e
  | d0 :: ds, xs, S, 0, d, ⟨y, zs, A, B, e, r, rs, f⟩, q => by
    simp at q; subst q
    exact ⟨y, A, by rw [e]; rfl, r, fun a => by rw [f]; simp only [fa]; omega⟩
  | d0 :: ds, xs, S, i + 1, d, ⟨y, zs, A, B, e, r, rs, f⟩, q => by
    obtain ⟨x, T, h1, h2, h3⟩ := RepL.get (i := i) (d := d) rs (by simpa using q)
    exact ⟨x, T, by rw [e]; simpa using h1, h2, fun a => by have := h3 a; rw [f]; simp only [fa]; omega⟩
theorem frzL_iff : ∀ {ds : List D}, frzL ds = true ↔ ∀ d ∈ ds, frz d = true
  | [] => by simp [frzL]
  | d :: ds => by simp [frzL, frzL_iff (ds := ds)]
theorem RepL.drop {c : LC} {P H : Hp} : ∀ {ds : List D} {xs : List V} (n : Nat), RepL c P H ds xs fz → RepL c P H (ds.drop n) (xs.drop n) fz
  | ds, xs, 0, h => h
  | [], xs, n + 1, h => by rw [h.1]; exact ⟨rfl, rfl⟩
  | d :: ds, xs, n + 1, ⟨y, zs, A, B, e, r, rs, f⟩ => by
    have hB : B = fz := by
      funext a
      have := congrFun f a
      simp only [fa, fz] at this ⊢
      omega
    subst hB
    rw [e]
    exact RepL.drop n rs
theorem RepL.take {c : LC} {P H : Hp} : ∀ {ds : List D} {xs : List V} (n : Nat), RepL c P H ds xs fz → RepL c P H (ds.take n) (xs.take n) fz
  | ds, xs, 0, h => ⟨rfl, rfl⟩
  | [], xs, n + 1, h => by rw [h.1]; exact ⟨rfl, rfl⟩
  | d :: ds, xs, n + 1, ⟨y, zs, A, B, e, r, rs, f⟩ => by
    have hB : A = fz ∧ B = fz := by
      refine ⟨?_, ?_⟩ <;> funext a <;> (have := congrFun f a; simp only [fa, fz] at this ⊢; omega)
    obtain ⟨rfl, rfl⟩ := hB
    rw [e]
    exact ⟨y, zs.take n, fz, fz, rfl, r, RepL.take n rs, (fa_fz fz).symm⟩
theorem RepL.rep {c : LC} {P H : Hp} {ds : List D} {xs : List V} (h : RepL c P H ds xs fz) : ∀ n : Nat, RepL c P H (List.replicate n ds).flatten (List.replicate n xs).flatten fz
  | 0 => ⟨rfl, rfl⟩
  | n + 1 => by
    have := RepL.append h (RepL.rep h n)
    rw [fa_fz] at this
    simpa [List.replicate_succ] using this

/-! ### new objects -/
section
variable {c : LC} {P H : Hp} {Q : VK}
theorem none_of {a : Addr} (e : Ex P H) (h : H a = none) : P a = none := by
  cases z : P a with
  | none => rfl
  | some o => rw [e a o z] at h; cases h
theorem ex_new {p : Addr} {o : HO} (h : H p = none) : Ex H (upd H p o) := fun a u e => by
  rw [upd_ne (ne_of_none e h)]; exact e
theorem one_le {p : Addr} : ∀ a, one p a ≤ 1 := fun a => by unfold one; split <;> omega
theorem one_pos {p a : Addr} (h : 0 < one p a) : a = p := by unfold one at h; split at h <;> first | assumption | omega
theorem FQ.lst {ds : List D} {xs : List V} (h : FQ c P H (.lst true ds) Q) (e : Ex P H) (r : RepL c P H ds xs fz) : ∀ p, H p = none → Q (.ref p) (upd H p (.lst xs)) := fun p hp => by
  refine h _ _ P (one p) ⟨.refl _, ex_new hp, e.trans (ex_new hp), fun _ z => .inl z⟩ ⟨p, xs, fz, rfl, upd_same, RepL.mono (.refl _) ds xs fz (fun a o z _ => by simp [fz] at z) r, (fa_fz _).symm⟩ one_le fun a z => ?_
  rw [one_pos z]
  exact ⟨hp, none_of e hp⟩
theorem FQ.lstC {ds : List D} {xs : List V} (h : FQ c P H (.lst false ds) Q) (e : Ex P H) (r : RepL c P H ds xs fz) : ∀ p, H p = none → Q (.ref p) (upd H p (.lst xs)) := fun p hp => by
  have hP := none_of e hp
  refine h _ _ (upd P p (.lst xs)) fz ⟨ex_new hP, ex_new hp, fun a o z => ?_, fun a z => ?_⟩ ⟨p, xs, rfl, upd_same, RepL.mono (ex_new hP) ds xs fz (fun a o z _ => by simp [fz] at z) r⟩ (fun _ => Nat.zero_le _) (fun a z => by simp [fz] at z)
  · by_cases q : a = p
    · subst q; rw [upd_same] at z ⊢; exact z
    · rw [upd_ne q] at z ⊢; exact e a o z
  · by_cases q : a = p
    · subst q; exact .inr hp
    · rw [upd_ne q] at z; exact .inl z
theorem FQ.tup {ds : List D} {xs : List V} (h : FQ c P H (.tup ds) Q) (e : Ex P H) (r : RepL c P H ds xs fz) : ∀ p, H p = none → Q (.ref p) (upd H p (.tup xs)) := fun p hp => by
  have hP := none_of e hp
  refine h _ _ (upd P p (.tup xs)) fz ⟨ex_new hP, ex_new hp, fun a o z => ?_, fun a z => ?_⟩ ⟨p, xs, rfl, .inl (.inl upd_same), RepL.mono (ex_new hP) ds xs fz (fun a o z _ => by simp [fz] at z) r⟩ (fun _ => Nat.zero_le _) (fun a z => by simp [fz] at z)
  · by_cases q : a = p
    · subst q; rw [upd_same] at z ⊢; exact z
    · rw [upd_ne q] at z ⊢; exact e a o z
  · by_cases q : a = p
    · subst q; exact .inr hp
    · rw [upd_ne q] at z; exact .inl z
theorem FQ.grow {P2 H2 : Hp} {d : D} (h : FQ c P H d Q) (g : Gr P H P2 H2) : FQ c P2 H2 d Q := fun v H' P' U g2 r u1 u2 => h v H' P' U (g.trans g2) r u1 fun a z => by
  obtain ⟨n1, n2⟩ := u2 a z
  refine ⟨?_, n2⟩
  cases q : H a with
  | none => rfl
  | some o => rw [g.h a o q] at n1; cases n1
theorem RQ.grow {P2 H2 : Hp} {d : D} (h : RQ c P H d Q) (g : Gr P H P2 H2) : RQ c P2 H2 d Q := fun v H' P' U g2 r => h v H' P' U (g.trans g2) r
theorem Rep.gr {P2 H2 : Hp} {d : D} {v : V} {S : FP} (r : Rep c P H d v S) (g : Gr P H P2 H2) : Rep c P2 H2 d v S := Rep.mono g.p d v S (fun a o _ h => g.h a o h) r
theorem RepL.gr {P2 H2 : Hp} {d : List D} {v : List V} {S : FP} (r : RepL c P H d v S) (g : Gr P H P2 H2) : RepL c P2 H2 d v S := RepL.mono g.p d v S (fun a o _ h => g.h a o h) r
end

/-! ### two-place operations -/
def m2 (f : D → D → Option D) (ma mb : RM) : RM := fun ρ => (ma ρ).bind fun x => (mb ρ).bind fun y => f x y
def m1 (f : D → Option D) (ma : RM) : RM := fun ρ => (ma ρ).bind f
/-- f is what r does -/
def Op2 (c : LC) (r : R2) (f : D → D → Option D) : Prop := ∀ (P H : Hp), Ex P H → ∀ da db d x y U1 U2, f da db = some d → Rep c P H da x U1 → Rep c P H db y U2 → ∀ Q, FQ c P H d Q → r x y H Q
def Op2V (c : LC) (r : R2) (f : D → D → Option D) : Prop := ∀ (P H : Hp), Ex P H → ∀ da db d x y U1 U2, f da db = some d → Rep c P H da x U1 → Rep c P H db y U2 → ∀ Q, RQ c P H d Q → r x y H Q
section
variable {X : Cx} {cl : Nat → Addr} {E : En} {a b : Expr} {pos : Pos} {ma mb : RM} {r : R2} {f : D → D → Option D}
theorem op2_run (hf : Op2 ⟨X.K, cl⟩ r f) {σ : L2.St} {H : Hp} {Q : VK} (h : tF ⟨X.K, cl⟩ E (m2 f ma mb) σ H Q) : tOp r (tR ⟨X.K, cl⟩ E ma) (tR ⟨X.K, cl⟩ E mb) σ H Q := by
  obtain ⟨P, S, T, ρ, d, w, hm, q⟩ := h
  unfold m2 at hm
  cases ea : ma ρ with
  | none => rw [ea] at hm; cases hm
  | some da =>
    cases eb : mb ρ with
    | none => rw [ea, eb] at hm; cases hm
    | some db =>
      rw [ea, eb] at hm
      refine ⟨P, S, T, ρ, da, w, ea, fun x H1 P1 U1 g1 r1 => ⟨P1, S, T, ρ, db, w.grow g1, eb, fun y H2 P2 U2 g2 r2 => ?_⟩⟩
      exact hf P2 H2 g2.ph _ _ _ _ _ _ _ hm (r1.gr g2) r2 Q (q.grow (g1.trans g2))
theorem op2_runV (hf : Op2V ⟨X.K, cl⟩ r f) {σ : L2.St} {H : Hp} {Q : VK} (h : tR ⟨X.K, cl⟩ E (m2 f ma mb) σ H Q) : tOp r (tR ⟨X.K, cl⟩ E ma) (tR ⟨X.K, cl⟩ E mb) σ H Q := by
  obtain ⟨P, S, T, ρ, d, w, hm, q⟩ := h
  unfold m2 at hm
  cases ea : ma ρ with
  | none => rw [ea] at hm; cases hm
  | some da =>
    cases eb : mb ρ with
    | none => rw [ea, eb] at hm; cases hm
    | some db =>
      rw [ea, eb] at hm
      refine ⟨P, S, T, ρ, da, w, ea, fun x H1 P1 U1 g1 r1 => ⟨P1, S, T, ρ, db, w.grow g1, eb, fun y H2 P2 U2 g2 r2 => ?_⟩⟩
      exact hf P2 H2 g2.ph _ _ _ _ _ _ _ hm (r1.gr g2) r2 Q (q.grow (g1.trans g2))
theorem f_bin {op : Operator} (ho : OpR X (binaryOp op) r) (hf : Op2 ⟨X.K, cl⟩ r f) (ha : PE X a (tR ⟨X.K, cl⟩ E ma)) (hb : PE X b (tR ⟨X.K, cl⟩ E mb)) : PE X (.BinOp a op b pos) (tF ⟨X.K, cl⟩ E (m2 f ma mb)) :=
  PE_imp (pe_op ho ha hb) fun _ _ _ h => op2_run hf h
theorem f_cmp {op : CmpOp} (ho : OpR X (compareOp op) r) (hf : Op2 ⟨X.K, cl⟩ r f) (ha : PE X a (tR ⟨X.K, cl⟩ E ma)) (hb : PE X b (tR ⟨X.K, cl⟩ E mb)) (hm : behindInMarks op b = false) : PE X (.Compare a [op] [b] pos) (tF ⟨X.K, cl⟩ E (m2 f ma mb)) :=
  PE_imp (pe_cmpR ho ha hb hm) fun _ _ _ h => op2_run hf h
/-- a bool as a test -/
def bM (m : RM) : BM := fun ρ => (m ρ).bind fun d => match d with | .bl b => some b | _ => none
theorem bM_some {m : RM} {ρ : List D} {b : Bool} (h : bM m ρ = some b) : m ρ = some (.bl b) := by
  unfold bM at h
  cases e : m ρ with
  | none => rw [e] at h; cases h
  | some d =>
    rw [e] at h
    cases d with
    | bl k => simp at h; rw [h]
    | _ => simp at h
theorem t_test {e : Expr} {m : RM} {t : TE} (h : PT X e (tTest t)) (k : ∀ σ H Q, tF ⟨X.K, cl⟩ E m σ H Q → t σ H Q) : PT X e (tT ⟨X.K, cl⟩ E (bM m)) :=
  PT_imp h fun σ H Q ⟨P, S, T, ρ, b, w, hm, q⟩ => k σ H _ ⟨P, S, T, ρ, .bl b, w, bM_some hm, fun v H' P' U g r _ _ => ⟨b, r.1, q H' P' g⟩⟩
theorem t_cmp {op : CmpOp} (ho : OpR X (compareOp op) r) (hf : Op2 ⟨X.K, cl⟩ r f) (ha : PE X a (tR ⟨X.K, cl⟩ E ma)) (hb : PE X b (tR ⟨X.K, cl⟩ E mb)) (hm : behindInMarks op b = false) : PT X (.Compare a [op] [b] pos) (tT ⟨X.K, cl⟩ E (bM (m2 f ma mb))) :=
  t_test (pt_cmpR ho ha hb hm) fun _ _ _ h => op2_run hf h
end
theorem OpR_or {X : Cx} {g : Value → Value → Sem Value} {r r' : R2} (h : OpR X g r) (h' : OpR X g r') : OpR X g (fun x y H Q => r x y H Q ∨ r' x y H Q) := fun pins s σ H x y v u Q I rx ry q => q.elim (h pins s σ H x y v u Q I rx ry) (h' pins s σ H x y v u Q I rx ry)

/-! ### + - * // % ** -/
def addD : D → D → Option D
  | .int a, .int b => some (.int (a + b))
  | .str a, .str b => if a.length + b.length ≤ LIM then some (.str (a ++ b)) else none
  | .lst _ a, .lst _ b => if (frzL a && frzL b) = true ∧ a.length + b.length ≤ LIM then some (.lst true (a ++ b)) else none
  | .tup a, .tup b => if (frzL a && frzL b) = true ∧ a.length + b.length ≤ LIM then some (.tup (a ++ b)) else none
  | _, _ => none
def rAddA (K : PySem.W.Frag) : R2 := fun x y H Q => (rI0 (fun i j => .int (i + j))) x y H Q ∨ (∃ i j, x = .str i ∧ y = .str j ∧ i.length + j.length ≤ sizeLine ∧ Q (.str (i ++ j)) H) ∨ rCat x y H Q ∨ rCatA K x y H Q
section
variable {X : Cx} {c : LC}
theorem opr_add : OpR X (binaryOp .Add) (rAddA X.K) := OpR_or op_add (OpR_or op_add_str (OpR_or op_cat op_catA))
theorem lst_heap {P H : Hp} (e : Ex P H) {o : Bool} {ds : List D} {v : V} {U : FP} (r : Rep c P H (.lst o ds) v U) : ∃ a xs T, v = .ref a ∧ H a = some (.lst xs) ∧ RepL c P H ds xs T ∧ ∀ a, T a ≤ U a := by
  cases o with
  | true =>
    obtain ⟨a, xs, T, e1, h, rl, f⟩ := r
    exact ⟨a, xs, T, e1, h, rl, fun b => by rw [f]; simp only [fa]; omega⟩
  | false =>
    obtain ⟨a, xs, e1, h, rl⟩ := r
    exact ⟨a, xs, U, e1, e _ _ h, rl, fun _ => Nat.le_refl _⟩
theorem lst_heap0 {P H : Hp} (e : Ex P H) {o : Bool} {ds : List D} {v : V} {U : FP} (r : Rep c P H (.lst o ds) v U) (hf : frzL ds = true) : ∃ a xs, v = .ref a ∧ H a = some (.lst xs) ∧ RepL c P H ds xs fz := by
  obtain ⟨a, xs, T, e1, h, rl, _⟩ := lst_heap e r
  have z := RepL.frz0 ds xs T hf rl
  subst z
  exact ⟨a, xs, e1, h, rl⟩
theorem tup_heap0 {P H : Hp} (e : Ex P H) {ds : List D} {v : V} {U : FP} (r : Rep c P H (.tup ds) v U) (hf : frzL ds = true) : ∃ a xs, v = .ref a ∧ SqT c.K H a xs ∧ SqT c.K P a xs ∧ RepL c P H ds xs fz := by
  obtain ⟨a, xs, e1, h, rl⟩ := r
  have z := RepL.frz0 ds xs U hf rl
  subst z
  exact ⟨a, xs, e1, sqt_mono e h, h, rl⟩
theorem str_app (a b : List Nat) : (⟨a.toArray⟩ : Str) ++ (⟨b.toArray⟩ : Str) = ⟨(a ++ b).toArray⟩ := by
  show (Str.mk (a.toArray ++ b.toArray)) = _
  simp
theorem str_len (a : List Nat) : (⟨a.toArray⟩ : Str).length = a.length := by
  show a.toArray.size = _
  simp
theorem op_addD : Op2 c (rAddA c.K) addD := by
  intro P H e da db d x y U1 U2 hf r1 r2 Q q
  unfold addD at hf
  split at hf
  · rename_i a b
    cases hf
    exact .inl ⟨a, b, r1.1, r2.1, q.flat e ⟨rfl, rfl⟩⟩
  · rename_i a b
    split at hf
    · rename_i hl
      cases hf
      refine .inr (.inl ⟨_, _, r1.1, r2.1, ?_, ?_⟩)
      · rw [str_len, str_len]; exact lim_le hl
      · rw [str_app]; exact q.flat e ⟨rfl, rfl⟩
    · cases hf
  · rename_i o1 a o2 b
    split at hf
    · rename_i hl
      obtain ⟨hz, hl⟩ := hl
      simp only [Bool.and_eq_true] at hz
      cases hf
      obtain ⟨p1, xs, rfl, h1, l1⟩ := lst_heap0 e r1 hz.1
      obtain ⟨p2, ys, rfl, h2, l2⟩ := lst_heap0 e r2 hz.2
      refine .inr (.inr (.inl ⟨p1, p2, xs, ys, rfl, rfl, h1, h2, ?_, q.lst e ?_⟩))
      · rw [← l1.length, ← l2.length]; exact lim_le hl
      · have := l1.append l2; rwa [fa_fz] at this
    · cases hf
  · rename_i a b
    split at hf
    · rename_i hl
      obtain ⟨hz, hl⟩ := hl
      simp only [Bool.and_eq_true] at hz
      cases hf
      obtain ⟨p1, xs, rfl, h1, h1', l1⟩ := tup_heap0 e r1 hz.1
      obtain ⟨p2, ys, rfl, h2, h2', l2⟩ := tup_heap0 e r2 hz.2
      have ll := l1.append l2
      rw [fa_fz] at ll
      refine .inr (.inr (.inr ⟨p1, p2, xs, ys, rfl, rfl, h1, h2, ?_, ?_⟩))
      · rw [← l1.length, ← l2.length]; exact lim_le hl
      · refine ⟨fun z => ?_, fun _ z => ?_, fun _ _ => q.tup e ll⟩
        · subst z
          have h0 : a = [] := by have := l1.length; simpa using this
          subst h0
          exact q.flat e ⟨p2, ys, rfl, h2', l2⟩
        · subst z
          have h0 : b = [] := by have := l2.length; simpa using this
          subst h0
          exact q.flat e ⟨p1, xs, rfl, h1', by simpa using l1⟩
    · cases hf
  · cases hf

/-! ### ints -/
theorem op_i0 {g : Int → Int → V} {gd : Int → Int → D} {f : D → D → Option D} (hf : ∀ a b d, f a b = some d → ∃ i j, a = .int i ∧ b = .int j ∧ d = gd i j) (hg : ∀ (P H : Hp) i j, Rep c P H (gd i j) (g i j) fz) : Op2 c (rI0 g) f := by
  intro P H e da db d x y U1 U2 h r1 r2 Q q
  obtain ⟨i, j, rfl, rfl, rfl⟩ := hf _ _ _ h
  exact ⟨i, j, r1.1, r2.1, q.flat e (hg P H i j)⟩
theorem op_i {C : Int → Int → Prop} {g : Int → Int → V} {gd : Int → Int → D} {f : D → D → Option D} (hf : ∀ a b d, f a b = some d → ∃ i j, a = .int i ∧ b = .int j ∧ d = gd i j ∧ C i j) (hg : ∀ (P H : Hp) i j, Rep c P H (gd i j) (g i j) fz) : Op2 c (rI C g) f := by
  intro P H e da db d x y U1 U2 h r1 r2 Q q
  obtain ⟨i, j, rfl, rfl, rfl, hc⟩ := hf _ _ _ h
  exact ⟨i, j, r1.1, r2.1, hc, q.flat e (hg P H i j)⟩
def subD : D → D → Option D
  | .int a, .int b => some (.int (a - b))
  | _, _ => none
theorem op_subD : Op2 c (rI0 fun i j => .int (i - j)) subD := op_i0 (gd := fun i j => .int (i - j)) (fun a b d h => by
  unfold subD at h; split at h
  · cases h; exact ⟨_, _, rfl, rfl, rfl⟩
  · cases h) fun _ _ _ _ => ⟨rfl, rfl⟩
def fdivD : D → D → Option D
  | .int a, .int b => if 0 < b ∧ b.natAbs.log2 < 9000 then some (.int (a / b)) else none
  | _, _ => none
theorem op_fdivD : Op2 c (rI CDivW fun i j => .int (i / j)) fdivD := op_i (gd := fun i j => .int (i / j)) (fun a b d h => by
  unfold fdivD at h; split at h
  · split at h
    · cases h; exact ⟨_, _, rfl, rfl, rfl, by assumption⟩
    · cases h
  · cases h) fun _ _ _ _ => ⟨rfl, rfl⟩
def modD : D → D → Option D
  | .int a, .int b => if 0 < b then some (.int (a % b)) else none
  | _, _ => none
theorem op_modD : Op2 c (rI (fun _ j => 0 < j) fun i j => .int (i % j)) modD := op_i (gd := fun i j => .int (i % j)) (fun a b d h => by
  unfold modD at h; split at h
  · split at h
    · cases h; exact ⟨_, _, rfl, rfl, rfl, by assumption⟩
    · cases h
  · cases h) fun _ _ _ _ => ⟨rfl, rfl⟩
def powD : D → D → Option D
  | .int a, .int b => if 0 ≤ b ∧ b ≤ 1000000 ∧ a.natAbs < 2 ^ 64 then some (.int (a ^ b.toNat)) else none
  | _, _ => none
theorem op_powD : Op2 c (rI CPow fun i j => .int (i ^ j.toNat)) powD := op_i (gd := fun i j => .int (i ^ j.toNat)) (fun a b d h => by
  unfold powD at h; split at h
  · split at h
    · cases h; exact ⟨_, _, rfl, rfl, rfl, by assumption⟩
    · cases h
  · cases h) fun _ _ _ _ => ⟨rfl, rfl⟩

/-! ### * -/
def mulD : D → D → Option D
  | .int a, .int b => if (-(2 ^ 64) < a ∧ a < 2 ^ 64) ∨ (-(2 ^ 64) < b ∧ b < 2 ^ 64) then some (.int (a * b)) else none
  | .lst _ a, .int k => if frzL a = true ∧ k ≤ 1000000 ∧ -1000000 ≤ k ∧ a.length * k.toNat ≤ LIM then some (.lst true (List.replicate k.toNat a).flatten) else none
  | .str a, .int k => if k ≤ 1000000 ∧ -1000000 ≤ k ∧ a.length * k.toNat ≤ LIM then some (.str (List.replicate k.toNat a).flatten) else none
  | _, _ => none
def rRepS : R2 := fun x y H Q => ∃ z k, x = .str z ∧ y = .int k ∧ MulOk z k ∧ Q (.str (Txt.mul z k)) H
theorem op_repS : OpR X (binaryOp .Mult) rRepS := by
  intro pins s σ H x y v u Q I rx ry h
  obtain ⟨z, k, rfl, rfl, hk, q⟩ := h
  obtain ⟨t, rfl⟩ := rx
  obtain ⟨t', rfl⟩ := ry
  exact PySem.SB.mul hk fun t' k => ⟨.str _, H, I.tok _, ⟨_, rfl⟩, q⟩
def rMulA : R2 := fun x y H Q => rI CMul (fun i j => .int (i * j)) x y H Q ∨ rRep x y H Q ∨ rRepS x y H Q
theorem opr_mul : OpR X (binaryOp .Mult) rMulA := OpR_or op_mul (OpR_or op_rep op_repS)
theorem foldl_app (a : Array Nat) : ∀ (n : Nat) (b : Array Nat), (List.replicate n a).foldl (· ++ ·) b = (b.toList ++ (List.replicate n a.toList).flatten).toArray
  | 0, b => by simp
  | n + 1, b => by
    rw [List.replicate_succ, List.foldl_cons, foldl_app a n]
    simp [List.replicate_succ]
theorem str_mul {a : List Nat} {k : Int} (h1 : k ≤ 1000000) (h2 : -1000000 ≤ k) (h3 : a.length * k.toNat ≤ LIM) : MulOk ⟨a.toArray⟩ k ∧ Txt.mul ⟨a.toArray⟩ k = ⟨(List.replicate k.toNat a).flatten.toArray⟩ := by
  refine ⟨⟨?_, fun n1 n2 => ?_, fun n1 n2 => ?_⟩, ?_⟩
  · rw [Bool.or_eq_false_iff, decide_eq_false_iff_not, decide_eq_false_iff_not]; omega
  · rw [str_len]
    have h4 : (a.length : Int) * k ≤ 2 ^ 63 - 1 := by
      have e1 : (k.toNat : Int) = k := by omega
      have e2 : ((a.length * k.toNat : Nat) : Int) = (a.length : Int) * k := by rw [Int.natCast_mul, e1]
      unfold LIM at h3
      omega
    have := Int.le_ediv_of_mul_le (by omega) h4
    omega
  · rw [str_len]
    have := lim_le h3
    unfold Builtin.Str.tooLong
    simp; omega
  · unfold Txt.mul
    by_cases n1 : k < 1
    · rw [if_pos n1, show k.toNat = 0 by omega]; rfl
    · rw [if_neg n1]
      by_cases n2 : (k == 1 || (⟨a.toArray⟩ : Str).length == 0) = true
      · rw [if_pos n2]
        rw [str_len] at n2
        simp only [Bool.or_eq_true, beq_iff_eq] at n2
        rcases n2 with n2 | n2
        · subst n2; simp
        · have : a = [] := List.length_eq_zero_iff.mp n2
          subst this; simp
      · rw [if_neg n2, foldl_app]; simp
theorem op_mulD : Op2 c rMulA mulD := by
  intro P H e da db d x y U1 U2 hf r1 r2 Q q
  unfold mulD at hf
  split at hf
  · rename_i a b
    split at hf
    · rename_i hc
      cases hf
      exact .inl ⟨a, b, r1.1, r2.1, hc, q.flat e ⟨rfl, rfl⟩⟩
    · cases hf
  · rename_i o a k
    split at hf
    · rename_i hl
      obtain ⟨hz, h1, h2, h3⟩ := hl
      cases hf
      obtain ⟨p1, xs, rfl, hh, l1⟩ := lst_heap0 e r1 hz
      refine .inr (.inl ⟨p1, k, xs, rfl, r2.1, hh, by omega, by omega, ?_, q.lst e (l1.rep _)⟩)
      rw [← l1.length]; exact lim_le h3
    · cases hf
  · rename_i a k
    split at hf
    · rename_i hl
      obtain ⟨h1, h2, h3⟩ := hl
      cases hf
      obtain ⟨m1, m2⟩ := str_mul h1 h2 h3
      exact .inr (.inr ⟨_, k, r1.1, r2.1, m1, by rw [m2]; exact q.flat e ⟨rfl, rfl⟩⟩)
    · cases hf
  · cases hf

/-! ### order -/
def cmpD (fi : Int → Int → Bool) (fs : List Nat → List Nat → Bool) : D → D → Option D
  | .int a, .int b => some (.bl (fi a b))
  | .str a, .str b => some (.bl (fs a b))
  | _, _ => none
theorem op_cmpD {fi : Int → Int → Bool} {fs : List Nat → List Nat → Bool} : Op2 c (fun x y H Q => rI0 (fun i j => .bl (fi i j)) x y H Q ∨ ∃ i j, x = .str i ∧ y = .str j ∧ Q (.bl (fs i.cps.toList j.cps.toList)) H) (cmpD fi fs) := by
  intro P H e da db d x y U1 U2 hf r1 r2 Q q
  unfold cmpD at hf
  split at hf
  · cases hf
    exact .inl ⟨_, _, r1.1, r2.1, q.flat e ⟨rfl, rfl⟩⟩
  · rename_i a b
    cases hf
    exact .inr ⟨_, _, r1.1, r2.1, q.flat e ⟨by simp, rfl⟩⟩
  · cases hf
def ltD : D → D → Option D := cmpD (fun i j => decide (i < j)) fun i j => decide (i < j)
def leD : D → D → Option D := cmpD (fun i j => decide (i ≤ j)) fun i j => !decide (j < i)
def gtD : D → D → Option D := cmpD (fun i j => decide (j < i)) fun i j => decide (j < i)
def geD : D → D → Option D := cmpD (fun i j => decide (j ≤ i)) fun i j => !decide (i < j)
theorem opr_lt : OpR X (compareOp .Lt) (fun x y H Q => rI0 (fun i j => .bl (decide (i < j))) x y H Q ∨ ∃ i j, x = .str i ∧ y = .str j ∧ Q (.bl (decide (i.cps.toList < j.cps.toList))) H) := OpR_or op_lt op_lt_str
theorem opr_le : OpR X (compareOp .LtE) (fun x y H Q => rI0 (fun i j => .bl (decide (i ≤ j))) x y H Q ∨ ∃ i j, x = .str i ∧ y = .str j ∧ Q (.bl (!decide (j.cps.toList < i.cps.toList))) H) := OpR_or op_le op_le_str
theorem opr_gt : OpR X (compareOp .Gt) (fun x y H Q => rI0 (fun i j => .bl (decide (j < i))) x y H Q ∨ ∃ i j, x = .str i ∧ y = .str j ∧ Q (.bl (decide (j.cps.toList < i.cps.toList))) H) := OpR_or op_gt op_gt_str
theorem opr_ge : OpR X (compareOp .GtE) (fun x y H Q => rI0 (fun i j => .bl (decide (j ≤ i))) x y H Q ∨ ∃ i j, x = .str i ∧ y = .str j ∧ Q (.bl (!decide (i.cps.toList < j.cps.toList))) H) := OpR_or op_ge op_ge_str

/-! ### == -/
def keyP : Key → PyData
  | .inl i => .int i
  | .inr s => .str s
/-- a key as data -/
def kD : Key → D
  | .inl i => .int i
  | .inr s => .str s.cps.toList
theorem kD_rep {c : LC} {P H : Hp} : ∀ k : Key, Rep c P H (kD k) (kV k) fz
  | .inl i => ⟨rfl, rfl⟩
  | .inr s => ⟨by cases s; simp [kV], rfl⟩
mutual
def toP : D → Option PyData
  | .non => some .none
  | .bl b => some (.bool b)
  | .int i => some (.int i)
  | .str s => some (.str ⟨s.toArray⟩)
  | .scr ns => some (.list (ns.map .int))
  | .kst ss => some (.tuple (ss.map fun s => .str ⟨s.toArray⟩))
  | .key ks => some (.tuple (ks.map keyP))
  | .tup ds => (toPL ds).map .tuple
  | .lst _ ds => (toPL ds).map .list
  | _ => none
def toPL : List D → Option (List PyData)
  | [] => some []
  | d :: ds => (toP d).bind fun p => (toPL ds).map fun ps => p :: ps
end
theorem dp_scr {K : PySem.W.Frag} {H : Hp} : ∀ ns : List Int, DpAll K H (ns.map V.int) (ns.map PyData.int)
  | [] => .nil
  | n :: ns => .cons (.int n) (dp_scr ns)
theorem dp_kst {K : PySem.W.Frag} {H : Hp} : ∀ ss : List (List Nat), DpAll K H (ss.map fun s => V.str ⟨s.toArray⟩) (ss.map fun s => PyData.str ⟨s.toArray⟩)
  | [] => .nil
  | s :: ss => .cons (.str _) (dp_kst ss)
theorem dp_key {K : PySem.W.Frag} {H : Hp} : ∀ ks : List Key, DpAll K H (ks.map kV) (ks.map keyP)
  | [] => .nil
  | .inl i :: ks => .cons (.int i) (dp_key ks)
  | .inr s :: ks => .cons (.str s) (dp_key ks)
mutual
theorem dp_of {P H : Hp} (e : Ex P H) : ∀ (d : D) (v : V) (U : FP) (p : PyData), toP d = some p → Rep c P H d v U → Dp c.K H v p
  | .non, v, U, p, h, r => by cases h; rw [r.1]; exact .non
  | .bl b, v, U, p, h, r => by cases h; rw [r.1]; exact .bl b
  | .int b, v, U, p, h, r => by cases h; rw [r.1]; exact .int b
  | .str b, v, U, p, h, r => by cases h; rw [r.1]; exact .str _
  | .scr ns, v, U, p, h, ⟨a, e1, q, _⟩ => by cases h; rw [e1]; exact .lst (sql_mono e q) (dp_scr ns)
  | .kst ss, v, U, p, h, ⟨a, e1, q, _⟩ => by cases h; rw [e1]; exact .tup (sqt_mono e q) (dp_kst ss)
  | .key ks, v, U, p, h, ⟨a, e1, q, _⟩ => by cases h; rw [e1]; exact .tup (.inl (.inl (e _ _ q))) (dp_key ks)
  | .tup ds, v, U, p, h, ⟨a, xs, e1, q, r⟩ => by
    unfold toP at h
    cases z : toPL ds with
    | none => rw [z] at h; cases h
    | some ps => rw [z] at h; cases h; rw [e1]; exact .tup (sqt_mono e q) (dp_all e ds xs U ps z r)
  | .lst true ds, v, U, p, h, ⟨a, xs, T, e1, q, r, _⟩ => by
    unfold toP at h
    cases z : toPL ds with
    | none => rw [z] at h; cases h
    | some ps => rw [z] at h; cases h; rw [e1]; exact .lst (.inl (.inl q)) (dp_all e ds xs T ps z r)
  | .lst false ds, v, U, p, h, ⟨a, xs, e1, q, r⟩ => by
    unfold toP at h
    cases z : toPL ds with
    | none => rw [z] at h; cases h
    | some ps => rw [z] at h; cases h; rw [e1]; exact .lst (.inl (.inl (e _ _ q))) (dp_all e ds xs U ps z r)
  | .gone, _, _, _, h, _ => by cases h
  | .dK .., _, _, _, h, _ => by cases h
  | .dT .., _, _, _, h, _ => by cases h
  | .obj .., _, _, _, h, _ => by cases h
theorem dp_all {P H : Hp} (e : Ex P H) : ∀ (ds : List D) (vs : List V) (U : FP) (ps : List PyData), toPL ds = some ps → RepL c P H ds vs U → DpAll c.K H vs ps
  | [], vs, U, ps, h, r => by cases h; rw [r.1]; exact .nil
  | d :: ds, vs, U, ps, h, ⟨y, ys, T, T2, e1, r, rs, _⟩ => by
    unfold toPL at h
    cases z : toP d with
    | none => rw [z] at h; cases h
    | some q =>
      cases z2 : toPL ds with
      | none => rw [z, z2] at h; cases h
      | some qs => rw [z, z2] at h; cases h; rw [e1]; exact .cons (dp_of e d y T q z r) (dp_all e ds ys T2 qs z2 rs)
end
def eqB (a b : D) : Option Bool := (toP a).bind fun p => (toP b).bind fun q => if SeqAt.shaped p = true ∧ SeqAt.shaped q = true then some (PyData.eqv p q) else none
def eqD (a b : D) : Option D := (eqB a b).map .bl
def neD (a b : D) : Option D := (eqB a b).map fun k => .bl (!k)
theorem eqB_dp {P H : Hp} (e : Ex P H) {a b : D} {x y : V} {U1 U2 : FP} {k : Bool} (h : eqB a b = some k) (r1 : Rep c P H a x U1) (r2 : Rep c P H b y U2) :
    ∃ p q, Dp c.K H x p ∧ Dp c.K H y q ∧ SeqAt.shaped p = true ∧ SeqAt.shaped q = true ∧ PyData.eqv p q = k := by
  unfold eqB at h
  cases z1 : toP a with
  | none => rw [z1] at h; cases h
  | some p =>
    cases z2 : toP b with
    | none => rw [z1, z2] at h; cases h
    | some q =>
      rw [z1, z2] at h
      simp only [Option.bind_some] at h
      split at h
      · rename_i hs
        cases h
        exact ⟨p, q, dp_of e _ _ _ _ z1 r1, dp_of e _ _ _ _ z2 r2, hs.1, hs.2, rfl⟩
      · cases h
theorem op_eqqD : Op2 c (rEqD c.K) eqD := by
  intro P H e da db d x y U1 U2 hf r1 r2 Q q
  unfold eqD at hf
  cases z : eqB da db with
  | none => rw [z] at hf; cases hf
  | some k =>
    rw [z] at hf; cases hf
    obtain ⟨p, p2, d1, d2, s1, s2, rfl⟩ := eqB_dp e z r1 r2
    exact ⟨p, p2, d1, d2, s1, s2, q.flat e ⟨rfl, rfl⟩⟩
theorem op_neqD : Op2 c (rNeD c.K) neD := by
  intro P H e da db d x y U1 U2 hf r1 r2 Q q
  unfold neD at hf
  cases z : eqB da db with
  | none => rw [z] at hf; cases hf
  | some k =>
    rw [z] at hf; cases hf
    obtain ⟨p, p2, d1, d2, s1, s2, rfl⟩ := eqB_dp e z r1 r2
    exact ⟨p, p2, d1, d2, s1, s2, q.flat e ⟨rfl, rfl⟩⟩

/-! ### is -/
def isNo : D → Option Bool
  | .non => some true
  | .gone => none
  | _ => some false
def isD : D → D → Option D
  | a, .non => (isNo a).map .bl
  | .bl a, .bl b => some (.bl (a == b))
  | _, _ => none
def nisD : D → D → Option D
  | a, .non => (isNo a).map fun k => .bl (!k)
  | .bl a, .bl b => some (.bl (!(a == b)))
  | _, _ => none
theorem isNo_v {P H : Hp} : ∀ {a : D} {x : V} {U : FP} {k : Bool}, isNo a = some k → Rep c P H a x U → decide (x = .non) = k
  | .non, x, U, k, h, r => by cases h; rw [r.1]; rfl
  | .bl _, x, U, k, h, r => by cases h; rw [r.1]; rfl
  | .int _, x, U, k, h, r => by cases h; rw [r.1]; rfl
  | .str _, x, U, k, h, r => by cases h; rw [r.1]; rfl
  | .scr _, x, U, k, h, ⟨_, e, _⟩ => by cases h; rw [e]; rfl
  | .kst _, x, U, k, h, ⟨_, e, _⟩ => by cases h; rw [e]; rfl
  | .key _, x, U, k, h, ⟨_, e, _⟩ => by cases h; rw [e]; rfl
  | .tup _, x, U, k, h, ⟨_, _, e, _⟩ => by cases h; rw [e]; rfl
  | .lst true _, x, U, k, h, ⟨_, _, _, e, _⟩ => by cases h; rw [e]; rfl
  | .lst false _, x, U, k, h, ⟨_, _, e, _⟩ => by cases h; rw [e]; rfl
  | .dK true _ _, x, U, k, h, ⟨_, _, _, e, _⟩ => by cases h; rw [e]; rfl
  | .dK false _ _, x, U, k, h, ⟨_, _, e, _⟩ => by cases h; rw [e]; rfl
  | .dT true _ _, x, U, k, h, ⟨_, _, _, e, _⟩ => by cases h; rw [e]; rfl
  | .dT false _ _, x, U, k, h, ⟨_, _, e, _⟩ => by cases h; rw [e]; rfl
  | .obj true _ _ _, x, U, k, h, ⟨_, _, _, _, e, _⟩ => by cases h; rw [e]; rfl
  | .obj false _ _ _, x, U, k, h, ⟨_, _, _, e, _⟩ => by cases h; rw [e]; rfl
theorem opr_is : OpR X (compareOp .Is) (fun x y H Q => (y = .non ∧ Q (.bl (decide (x = .non))) H) ∨ rIsB x y H Q) := OpR_or op_isN op_isBl
theorem opr_nis : OpR X (compareOp .IsNot) (fun x y H Q => (y = .non ∧ Q (.bl (!decide (x = .non))) H) ∨ rNotB x y H Q) := OpR_or op_notN op_notBl
theorem op_isD : Op2 c (fun x y H Q => (y = .non ∧ Q (.bl (decide (x = .non))) H) ∨ rIsB x y H Q) isD := by
  intro P H e da db d x y U1 U2 hf r1 r2 Q q
  unfold isD at hf
  split at hf
  · cases z : isNo da with
    | none => rw [z] at hf; cases hf
    | some k =>
      rw [z] at hf; cases hf
      exact .inl ⟨r2.1, by rw [isNo_v z r1]; exact q.flat e ⟨rfl, rfl⟩⟩
  · cases hf
    exact .inr ⟨_, _, r1.1, r2.1, q.flat e ⟨by congr 1, rfl⟩⟩
  · cases hf
theorem op_nisD : Op2 c (fun x y H Q => (y = .non ∧ Q (.bl (!decide (x = .non))) H) ∨ rNotB x y H Q) nisD := by
  intro P H e da db d x y U1 U2 hf r1 r2 Q q
  unfold nisD at hf
  split at hf
  · cases z : isNo da with
    | none => rw [z] at hf; cases hf
    | some k =>
      rw [z] at hf; cases hf
      exact .inl ⟨r2.1, by rw [isNo_v z r1]; exact q.flat e ⟨rfl, rfl⟩⟩
  · cases hf
    exact .inr ⟨_, _, r1.1, r2.1, q.flat e ⟨by congr 1, rfl⟩⟩
  · cases hf
end
end LI
namespace LI
open PySem L2

/-! ### slots -/
theorem RepE.get {c : LC} {P H : Hp} : ∀ {ρ : List D} {σ : St} {S : FP} {i : Nat} {d : D}, RepE c P H ρ σ S → ρ[i]? = some d → ∃ ov T, σ[i]? = some ov ∧ RepO c P H d ov T ∧ ∀ a, T a ≤ S a
  | [], [], _, i, d, _, e => by simp at e
  | d0 :: ds, v0 :: σ, S, 0, d, ⟨T, U, r, rs, f⟩, e => by
    simp at e; subst e
    exact ⟨v0, T, rfl, r, fun a => by rw [f]; simp only [fa]; omega⟩
  | d0 :: ds, v0 :: σ, S, i + 1, d, ⟨T, U, r, rs, f⟩, e => by
    obtain ⟨ov, T2, h1, h2, h3⟩ := RepE.get (i := i) (d := d) rs (by simpa using e)
    exact ⟨ov, T2, by simpa using h1, h2, fun a => by have := h3 a; rw [f]; simp only [fa]; omega⟩
  | [], _ :: _, _, _, _, h, _ => h.elim
  | _ :: _, [], _, _, _, h, _ => h.elim
def notGone : D → Bool
  | .gone => false
  | _ => true
def vM (i : Nat) : RM := fun ρ => (ρ[i]?).bind fun d => if notGone d = true then some d else none
section
variable {X : Cx} {cl : Nat → Addr} {E : En} {e a b : Expr} {pos : Pos} {m ma mb : RM}
theorem tvar_run {c : LC} {i : Nat} {σ : St} {H : Hp} {Q : VK} (h : tR c E (vM i) σ H Q) : tVar i σ H Q := by
  obtain ⟨P, S, T, ρ, d, w, hm, q⟩ := h
  unfold vM at hm
  cases e : ρ[i]? with
  | none => rw [e] at hm; cases hm
  | some d1 =>
    rw [e] at hm
    simp only [Option.bind_some] at hm
    split at hm
    · rename_i hn
      cases hm
      obtain ⟨ov, T2, h1, h2, _⟩ := w.env.get e
      cases ov with
      | none => rw [h2.1] at hn; cases hn
      | some v => exact ⟨v, h1, q v H P T2 (.refl w.ph) h2⟩
    · cases hm
theorem r_v (i : Nat) {x : Str} (hN : X.N[i]? = some x := by rfl) (hv : Vis X.env.scope x := by first | exact Or.inl rfl | exact Or.inr (Or.inl rfl) | exact Or.inr (Or.inr rfl)) (hd : (x == ("__debug__" : Str)) = false := by decide)
    (hcd : (x == ("__classdict__" : Str)) = false := by decide) : PE X (.Name x pos) (tR ⟨X.K, cl⟩ E (vM i)) := PE_imp (pe_var hN hv hd hcd) fun _ _ _ h => tvar_run h

/-! ### constants -/
def kM (d : D) : RM := fun _ => some d
theorem tc_run {c : LC} {d : D} {v : V} (hr : ∀ P H, Ex P H → Rep c P H d v fz) {σ : St} {H : Hp} {Q : VK} (h : tF c E (kM d) σ H Q) : tC v σ H Q := by
  obtain ⟨P, S, T, ρ, d1, w, hm, q⟩ := h
  cases hm
  exact q.flat w.ph (hr P H w.ph)
theorem f_int {i : Int} {j} : PE X (.Constant (.int i) j pos) (tF ⟨X.K, cl⟩ E (kM (.int i))) := PE_imp pe_int fun _ _ _ h => tc_run (c := ⟨X.K, cl⟩) (d := .int i) (v := .int i) (fun _ _ _ => ⟨rfl, rfl⟩) h
theorem f_bl {k : Bool} {j} : PE X (.Constant (.bool k) j pos) (tF ⟨X.K, cl⟩ E (kM (.bl k))) := PE_imp pe_bl fun _ _ _ h => tc_run (c := ⟨X.K, cl⟩) (d := .bl k) (v := .bl k) (fun _ _ _ => ⟨rfl, rfl⟩) h
theorem f_non {j} : PE X (.Constant .none j pos) (tF ⟨X.K, cl⟩ E (kM .non)) := PE_imp pe_non fun _ _ _ h => tc_run (c := ⟨X.K, cl⟩) (d := .non) (v := .non) (fun _ _ _ => ⟨rfl, rfl⟩) h
theorem f_str {x : Str} {j} (s : List Nat) (hs : x = ⟨s.toArray⟩ := by rfl) : PE X (.Constant (.str x) j pos) (tF ⟨X.K, cl⟩ E (kM (.str s))) := PE_imp pe_str fun _ _ _ h => tc_run (c := ⟨X.K, cl⟩) (d := .str s) (v := .str x) (fun _ _ _ => ⟨by rw [hs], rfl⟩) h
/-- a module's constant -/
theorem f_glob {x : Str} {v : V} {u : Value} (d : D) (hg : Gl X x) (hm : X.mg x = some u) (r : RelV v u) (hr : ∀ P H, Ex P H → Rep ⟨X.K, cl⟩ P H d v fz) (hd : (x == ("__debug__" : Str)) = false := by decide) : PE X (.Name x pos) (tF ⟨X.K, cl⟩ E (kM d)) :=
  PE_imp (pe_glob hg hm r hd) fun _ _ _ h => tc_run hr h

/-! ### one-place -/
def negD : D → Option D
  | .int a => some (.int (-a))
  | _ => none
theorem f_neg (ha : PE X a (tR ⟨X.K, cl⟩ E ma)) : PE X (.UnaryOp .USub a pos) (tF ⟨X.K, cl⟩ E (m1 negD ma)) := PE_imp (pe_un un_neg ha) fun σ H Q ⟨P, S, T, ρ, d, w, hm, q⟩ => by
  unfold m1 at hm
  cases ea : ma ρ with
  | none => rw [ea] at hm; cases hm
  | some da =>
    rw [ea] at hm
    cases da with
    | int i =>
      cases hm
      refine ⟨P, S, T, ρ, .int i, w, ea, fun v H' P' U g r => ⟨i, r.1, ?_⟩⟩
      exact q _ H' P' fz g ⟨rfl, rfl⟩ (fun _ => Nat.zero_le _) fun a z => by simp [fz] at z
    | _ => cases hm

/-! ### argument lists, displays -/
abbrev AM := List D → Option (List D)
def tAR (c : LC) (E : En) (m : AM) : TA := fun σ H Q => ∃ P S T ρ ds, Wd c E P S T σ H ρ ∧ m ρ = some ds ∧ ∀ vs H' P' U, Gr P H P' H' → RepL c P' H' ds vs U → Q vs H'
def nilM : AM := fun _ => some []
def consM (m : RM) (ms : AM) : AM := fun ρ => (m ρ).bind fun d => (ms ρ).map fun ds => d :: ds
theorem a_nil : PA X [] (tAR ⟨X.K, cl⟩ E nilM) := PA_imp pa_nil fun σ H Q ⟨P, S, T, ρ, ds, w, hm, q⟩ => by
  cases hm
  exact q [] H P fz (.refl w.ph) ⟨rfl, rfl⟩
theorem a_cons {es : List Expr} {ms : AM} (h : PE X e (tR ⟨X.K, cl⟩ E m)) (hr : PA X es (tAR ⟨X.K, cl⟩ E ms)) (hs : starEach (e :: es) X.env = (false, eval e X.env) :: starEach es X.env := by rfl) : PA X (e :: es) (tAR ⟨X.K, cl⟩ E (consM m ms)) :=
  PA_imp (pa_cons h hr hs) fun σ H Q ⟨P, S, T, ρ, ds, w, hm, q⟩ => by
    unfold consM at hm
    cases e1 : m ρ with
    | none => rw [e1] at hm; cases hm
    | some d =>
      cases e2 : ms ρ with
      | none => rw [e1, e2] at hm; cases hm
      | some ds' =>
        rw [e1, e2] at hm
        cases hm
        exact ⟨P, S, T, ρ, d, w, e1, fun v H1 P1 U1 g1 r1 => ⟨P1, S, T, ρ, ds', w.grow g1, e2, fun vs H2 P2 U2 g2 r2 => q (v :: vs) H2 P2 (fa U1 U2) (g1.trans g2) ⟨v, vs, U1, U2, rfl, r1.gr g2, r2, rfl⟩⟩⟩
def tupM (ms : AM) : RM := fun ρ => (ms ρ).bind fun ds => if frzL ds = true ∧ ds.length ≤ LIM then some (.tup ds) else none
def lstM (ms : AM) : RM := fun ρ => (ms ρ).bind fun ds => if frzL ds = true ∧ ds.length ≤ LIM then some (.lst true ds) else none
theorem f_tup {es : List Expr} {ms : AM} {x1} (h : PA X es (tAR ⟨X.K, cl⟩ E ms)) : PE X (.Tuple es x1 pos) (tF ⟨X.K, cl⟩ E (tupM ms)) := PE_imp (pe_tup h) fun σ H Q ⟨P, S, T, ρ, d, w, hm, q⟩ => by
  unfold tupM at hm
  cases e1 : ms ρ with
  | none => rw [e1] at hm; cases hm
  | some ds =>
    rw [e1] at hm
    simp only [Option.bind_some] at hm
    split at hm
    · rename_i hf
      cases hm
      refine ⟨P, S, T, ρ, ds, w, e1, fun vs H' P' U g r => ⟨by rw [← r.length]; exact lim_le hf.2, ?_⟩⟩
      have z := RepL.frz0 ds vs U hf.1 r
      subst z
      exact (q.grow g).tup g.ph r
    · cases hm
theorem f_lst {es : List Expr} {ms : AM} (h : PA X es (tAR ⟨X.K, cl⟩ E ms)) : PE X (.List es pos) (tF ⟨X.K, cl⟩ E (lstM ms)) := PE_imp (pe_lst h) fun σ H Q ⟨P, S, T, ρ, d, w, hm, q⟩ => by
  unfold lstM at hm
  cases e1 : ms ρ with
  | none => rw [e1] at hm; cases hm
  | some ds =>
    rw [e1] at hm
    simp only [Option.bind_some] at hm
    split at hm
    · rename_i hf
      cases hm
      refine ⟨P, S, T, ρ, ds, w, e1, fun vs H' P' U g r => ⟨by rw [← r.length]; exact lim_le hf.2, ?_⟩⟩
      have z := RepL.frz0 ds vs U hf.1 r
      subst z
      exact (q.grow g).lst g.ph r
    · cases hm

/-! ### subscripts -/
/-- keys of dicts -/
def keyD : D → Option Key
  | .int i => some (.inl i)
  | .str s => some (.inr ⟨s.toArray⟩)
  | _ => none
def keyDs : List D → Option (List Key)
  | [] => some []
  | d :: ds => (keyD d).bind fun k => (keyDs ds).map fun ks => k :: ks
def keyT : D → Option (List Key)
  | .tup ds => keyDs ds
  | _ => none
theorem keyD_v {c : LC} {P H : Hp} {d : D} {v : V} {U : FP} {k : Key} (h : keyD d = some k) (r : Rep c P H d v U) : v = kV k := by
  unfold keyD at h
  split at h
  · cases h; exact r.1
  · cases h; exact r.1
  · cases h
theorem keyDs_v {c : LC} {P H : Hp} : ∀ {ds : List D} {vs : List V} {U : FP} {ks : List Key}, keyDs ds = some ks → RepL c P H ds vs U → vs = ks.map kV
  | [], vs, U, ks, h, r => by cases h; rw [r.1]; rfl
  | d :: ds, vs, U, ks, h, ⟨y, ys, T, T2, e1, r, rs, _⟩ => by
    unfold keyDs at h
    cases z : keyD d with
    | none => rw [z] at h; cases h
    | some k =>
      cases z2 : keyDs ds with
      | none => rw [z, z2] at h; cases h
      | some ks' =>
        rw [z, z2] at h; cases h
        rw [e1, keyD_v z r, keyDs_v z2 rs]; rfl
/-- the value under a key -/
def under {κ : Type} [DecidableEq κ] : List κ → List D → κ → Option D
  | k :: ks, d :: ds, x => if k = x then some d else under ks ds x
  | _, _, _ => none
def atD (ds : List D) (i : Int) : Option D := atI ds i
def ixD : D → D → Option D
  | .lst _ ds, .int i => atI ds i
  | .tup ds, .int i => atI ds i
  | .scr ns, .int i => (atI ns i).map .int
  | .str s, .int i => if s.length ≤ LIM then (atI s i).map fun k => .str [k] else none
  | .dK _ ks ds, k => (keyD k).bind fun k => under ks ds k
  | _, _ => none
theorem atI_rep {c : LC} {P H : Hp} {ds : List D} {xs : List V} {S : FP} {i : Int} {d : D} (r : RepL c P H ds xs S) (h : atI ds i = some d) : ∃ x T, atI xs i = some x ∧ Rep c P H d x T ∧ ∀ a, T a ≤ S a := by
  unfold atI at h ⊢
  rw [← r.length]
  cases e : ixN ds.length i with
  | none => rw [e] at h; cases h
  | some j => rw [e] at h; exact r.get h
theorem atI_map {α β : Type} (f : α → β) (xs : List α) (i : Int) : atI (xs.map f) i = (atI xs i).map f := by
  unfold atI
  rw [List.length_map]
  cases ixN xs.length i with
  | none => rfl
  | some j => simp
end
theorem under_rep {c : LC} {P H : Hp} {κ : Type} [DecidableEq κ] : ∀ {ks : List κ} {ds : List D} {xs : List V} {S : FP} {k : κ} {d : D}, RepL c P H ds xs S → ks.length = xs.length → under ks ds k = some d → ∃ x T, (ks.zip xs).find? (fun p => decide (p.1 = k)) = some (k, x) ∧ Rep c P H d x T ∧ ∀ a, T a ≤ S a
  | [], ds, xs, S, k, d, r, n, h => by simp [under] at h
  | k0 :: ks, [], xs, S, k, d, r, n, h => by simp [under] at h
  | k0 :: ks, d0 :: ds, xs, S, k, d, ⟨y, ys, T, T2, e1, r, rs, f⟩, n, h => by
    subst e1
    unfold under at h
    by_cases q : k0 = k
    · rw [if_pos q] at h
      cases h
      exact ⟨y, T, by simp [q], r, fun a => by rw [f]; simp only [fa]; omega⟩
    · rw [if_neg q] at h
      obtain ⟨x, T3, h1, h2, h3⟩ := under_rep rs (by simpa using n) h
      exact ⟨x, T3, by simp [q, h1], h2, fun a => by have := h3 a; rw [f]; simp only [fa]; omega⟩
end LI
namespace LI
open PySem L2

theorem PE_or {X : Cx} {e : Expr} {t u : TE} (h : PE X e t) (k : PE X e u) : PE X e (fun σ H Q => t σ H Q ∨ u σ H Q) := ⟨fun pins s σ H Q I q => q.elim (h.run pins s σ H Q I) (k.run pins s σ H Q I)⟩
theorem PT_or {X : Cx} {e : Expr} {t u : TT} (h : PT X e t) (k : PT X e u) : PT X e (fun σ H Q => t σ H Q ∨ u σ H Q) := ⟨fun pins s σ H Q I q => q.elim (h.run pins s σ H Q I) (k.run pins s σ H Q I)⟩

/-! ### subscripts -/
theorem rep_kst {c : LC} {P H : Hp} {ss : List (List Nat)} {v : V} {U : FP} (r : Rep c P H (.kst ss) v U) : ∃ a, v = .ref a ∧ SqT c.K P a (ss.map fun s => V.str ⟨s.toArray⟩) := let ⟨a, e, q, _⟩ := r; ⟨a, e, q⟩
theorem dict_under {c : LC} {P H : Hp} (e : Ex P H) {dt : D} {x y : V} {U1 U2 : FP} {dk : D} :
    (∀ o ks ds, dt = .dK o ks ds → ∀ k, keyD dk = some k → Rep c P H dt x U1 → Rep c P H dk y U2 → ∃ a xs, x = .ref a ∧ H a = some (.dK (ks.zip xs)) ∧ ks.length = xs.length ∧ y = kV k ∧ ∃ T, RepL c P H ds xs T) := by
  refine fun o ks ds hd k hk r1 r2 => ?_
  · subst hd
    cases o with
    | true => obtain ⟨a, xs, T, e1, h, n, rl, _⟩ := r1; exact ⟨a, xs, e1, h, n, keyD_v hk r2, T, rl⟩
    | false => obtain ⟨a, xs, e1, h, n, rl⟩ := r1; exact ⟨a, xs, e1, e _ _ h, n, keyD_v hk r2, U1, rl⟩
theorem under_val {c : LC} {P H : Hp} {κ : Type} [DecidableEq κ] {ks : List κ} {ds : List D} {xs : List V} {S : FP} {k : κ} {d : D} (r : RepL c P H ds xs S) (n : ks.length = xs.length) (h : under ks ds k = some d) : ∃ x T, valV (ks.zip xs) k = some x ∧ Rep c P H d x T := by
  obtain ⟨x, T, h1, h2, _⟩ := under_rep r n h
  exact ⟨x, T, by unfold valV; rw [h1]; rfl, h2⟩
theorem under_none {c : LC} {P H : Hp} {κ : Type} [DecidableEq κ] : ∀ {ks : List κ} {ds : List D} {xs : List V} {S : FP} {k : κ}, RepL c P H ds xs S → ks.length = xs.length → under ks ds k = none → valV (ks.zip xs) k = none
  | [], ds, xs, S, k, r, n, h => by simp [valV]
  | k0 :: ks, [], xs, S, k, r, n, h => by rw [r.1] at n; simp at n
  | k0 :: ks, d0 :: ds, xs, S, k, ⟨y, ys, T, T2, e1, r, rs, f⟩, n, h => by
    subst e1
    unfold under at h
    by_cases q : k0 = k
    · rw [if_pos q] at h; cases h
    · rw [if_neg q] at h
      have := under_none rs (by simpa using n) h
      rw [List.zip_cons_cons, valV_neg (by simpa using q)]
      exact this
section
variable {X : Cx} {cl : Nat → Addr} {E : En} {e a b : Expr} {pos : Pos} {m ma mb : RM}
theorem r_ix (hu : X.A.units + 64 < cLine) (ha : PE X a (tR ⟨X.K, cl⟩ E ma)) (hb : PE X b (tR ⟨X.K, cl⟩ E mb)) (hs : PlainIx b := by exact fun _ _ => rfl) : PE X (.Subscript a b pos) (tR ⟨X.K, cl⟩ E (m2 ixD ma mb)) := by
  refine PE_imp (PE_or (pe_ix ix_seq ha hb hs) (pe_dget (Nat.lt_of_le_of_lt (by omega) hu) ha hb hs)) fun σ H Q ⟨P, S, T, ρ, d, w, hm, q⟩ => ?_
  unfold m2 at hm
  cases ea : ma ρ with
  | none => rw [ea] at hm; cases hm
  | some da =>
    cases eb : mb ρ with
    | none => rw [ea, eb] at hm; cases hm
    | some db =>
      rw [ea, eb] at hm
      replace hm : ixD da db = some d := hm
      unfold ixD at hm
      split at hm
      · rename_i o ds i
        left
        refine ⟨P, S, T, ρ, .lst o ds, w, ea, fun x H1 P1 U1 g1 r1 => ⟨P1, S, T, ρ, .int i, w.grow g1, eb, fun y H2 P2 U2 g2 r2 => ?_⟩⟩
        obtain ⟨p, xs, T', e1, hh, rl, _⟩ := lst_heap g2.ph (r1.gr g2)
        obtain ⟨z, T2, h1, h2, _⟩ := atI_rep rl hm
        exact .inl ⟨p, xs, i, z, e1, r2.1, .inl (.inl hh), h1, q z H2 P2 T2 (g1.trans g2) h2⟩
      · rename_i ds i
        left
        refine ⟨P, S, T, ρ, .tup ds, w, ea, fun x H1 P1 U1 g1 r1 => ⟨P1, S, T, ρ, .int i, w.grow g1, eb, fun y H2 P2 U2 g2 r2 => ?_⟩⟩
        obtain ⟨p, xs, e1, hh, rl⟩ := r1.gr g2
        obtain ⟨z, T2, h1, h2, _⟩ := atI_rep rl hm
        exact .inr (.inl ⟨p, xs, i, z, e1, r2.1, sqt_mono g2.ph hh, h1, q z H2 P2 T2 (g1.trans g2) h2⟩)
      · rename_i ns i
        left
        refine ⟨P, S, T, ρ, .scr ns, w, ea, fun x H1 P1 U1 g1 r1 => ⟨P1, S, T, ρ, .int i, w.grow g1, eb, fun y H2 P2 U2 g2 r2 => ?_⟩⟩
        obtain ⟨p, e1, hh, _⟩ := r1.gr g2
        cases z : atI ns i with
        | none => rw [z] at hm; cases hm
        | some k =>
          rw [z] at hm; cases hm
          exact .inl ⟨p, _, i, .int k, e1, r2.1, sql_mono g2.ph hh, by rw [atI_map, z]; rfl, q _ H2 P2 fz (g1.trans g2) ⟨rfl, rfl⟩⟩
      · rename_i s i
        split at hm
        · rename_i hl
          left
          refine ⟨P, S, T, ρ, .str s, w, ea, fun x H1 P1 U1 g1 r1 => ⟨P1, S, T, ρ, .int i, w.grow g1, eb, fun y H2 P2 U2 g2 r2 => ?_⟩⟩
          cases z : atI s i with
          | none => rw [z] at hm; cases hm
          | some k =>
            rw [z] at hm; cases hm
            exact .inr (.inr ⟨⟨s.toArray⟩, i, k, r1.1, r2.1, by rw [str_len]; exact lim_le hl, by simpa using z, q _ H2 P2 fz (g1.trans g2) ⟨rfl, rfl⟩⟩)
        · cases hm
      · rename_i o ks ds
        right
        cases z : keyD db with
        | none => rw [z] at hm; cases hm
        | some k =>
          rw [z] at hm
          refine ⟨P, S, T, ρ, .dK o ks ds, w, ea, fun x H1 P1 U1 g1 r1 => ⟨P1, S, T, ρ, _, w.grow g1, eb, fun y H2 P2 U2 g2 r2 => ?_⟩⟩
          obtain ⟨p, xs, e1, hh, n, ey, T', rl⟩ := (dict_under g2.ph) o ks ds rfl k z (r1.gr g2) r2
          obtain ⟨v, T2, h1, h2⟩ := under_val rl n hm
          exact ⟨p, v, e1, .inl ⟨_, k, .inl hh, ey, h1.symm⟩, q v H2 P2 T2 (g1.trans g2) h2⟩
      · cases hm

/-! ### slices -/
def cutL {α : Type} (xs : List α) (lo hi : Option Int) : List α := (xs.drop (HT.sIx xs.length 0 lo)).take (HT.sIx xs.length xs.length hi - HT.sIx xs.length 0 lo)
def slD (lo hi : Option Int) : D → Option D
  | .lst _ ds => if frzL ds = true then some (.lst true (cutL ds lo hi)) else none
  | .tup ds => if frzL ds = true then some (.tup (cutL ds lo hi)) else none
  | .scr ns => some (.lst true ((cutL ns lo hi).map .int))
  | .str s => if s.length ≤ LIM then some (.str (cutL s lo hi)) else none
  | _ => none
abbrev OM := List D → Option (Option Int)
def noM : OM := fun _ => some none
def soM (m : RM) : OM := fun ρ => (m ρ).bind fun d => match d with | .int i => some (some i) | _ => none
def slM (m : RM) (lo hi : OM) : RM := fun ρ => (m ρ).bind fun d => (lo ρ).bind fun l => (hi ρ).bind fun h => slD l h d
def tOM (c : LC) (E : En) (m : OM) : TO := fun σ H Q => ∃ P S T ρ o, Wd c E P S T σ H ρ ∧ m ρ = some o ∧ ∀ H' P', Gr P H P' H' → Q o H'
theorem o_none : PO X none (tOM ⟨X.K, cl⟩ E noM) := ⟨fun pins s σ H Q I ⟨P, S, T, ρ, o, w, hm, q⟩ => by
  cases hm
  exact po_none.run pins s σ H Q I (q H P (.refl w.ph))⟩
theorem o_some (h : PE X e (tR ⟨X.K, cl⟩ E m)) : PO X (some e) (tOM ⟨X.K, cl⟩ E (soM m)) := ⟨fun pins s σ H Q I ⟨P, S, T, ρ, o, w, hm, q⟩ => by
  refine (po_some h).run pins s σ H Q I ?_
  unfold soM at hm
  cases ea : m ρ with
  | none => rw [ea] at hm; cases hm
  | some da =>
    rw [ea] at hm
    cases da with
    | int i =>
      cases hm
      exact ⟨P, S, T, ρ, .int i, w, ea, fun v H' P' U g r => ⟨i, r.1, q H' P' g⟩⟩
    | _ => cases hm⟩
theorem RepL.cut {c : LC} {P H : Hp} {ds : List D} {xs : List V} (r : RepL c P H ds xs fz) (lo hi : Option Int) : RepL c P H (cutL ds lo hi) (cutV xs lo hi) fz := by
  unfold cutL cutV
  rw [r.length]
  exact (r.drop _).take _
theorem cutL_map {α β : Type} (f : α → β) (xs : List α) (lo hi : Option Int) : cutL (xs.map f) lo hi = (cutL xs lo hi).map f := by
  unfold cutL
  rw [List.length_map, ← List.map_drop, ← List.map_take]
theorem repL_ints {c : LC} {P H : Hp} : ∀ ns : List Int, RepL c P H (ns.map .int) (ns.map .int) fz
  | [] => ⟨rfl, rfl⟩
  | n :: ns => ⟨.int n, _, fz, fz, rfl, ⟨rfl, rfl⟩, repL_ints ns, (fa_fz fz).symm⟩
theorem f_sl {lo hi : Option Expr} {ml mh : OM} {p2 : Pos} (ha : PE X a (tR ⟨X.K, cl⟩ E ma)) (hl : PO X lo (tOM ⟨X.K, cl⟩ E ml)) (hh : PO X hi (tOM ⟨X.K, cl⟩ E mh)) : PE X (.Subscript a (.Slice lo hi none p2) pos) (tF ⟨X.K, cl⟩ E (slM ma ml mh)) := by
  refine PE_imp (pe_slice (SlR.or sl_list (SlR.or sl_tupA sl_str)) ha hl hh) fun σ H Q ⟨P, S, T, ρ, d, w, hm, q⟩ => ?_
  unfold slM at hm
  cases ea : ma ρ with
  | none => rw [ea] at hm; cases hm
  | some da =>
    cases el : ml ρ with
    | none => rw [ea, el] at hm; cases hm
    | some l =>
      cases eh : mh ρ with
      | none => rw [ea, el, eh] at hm; cases hm
      | some h =>
        rw [ea, el, eh] at hm
        replace hm : slD l h da = some d := hm
        refine ⟨P, S, T, ρ, da, w, ea, fun x H1 P1 U1 g1 r1 => ⟨P1, S, T, ρ, l, w.grow g1, el, fun H2 P2 g2 => ⟨P2, S, T, ρ, h, (w.grow g1).grow g2, eh, fun H3 P3 g3 => ?_⟩⟩⟩
        have r3 := (r1.gr g2).gr g3
        have gg := (g1.trans g2).trans g3
        unfold slD at hm
        split at hm
        · rename_i o ds
          split at hm
          · rename_i hf
            cases hm
            obtain ⟨p, xs, e1, hh, rl⟩ := lst_heap0 g3.ph r3 hf
            exact .inl ⟨p, xs, e1, .inl (.inl hh), (q.grow gg).lst g3.ph (rl.cut l h)⟩
          · cases hm
        · rename_i ds
          split at hm
          · rename_i hf
            cases hm
            obtain ⟨p, xs, e1, hh, hp, rl⟩ := tup_heap0 g3.ph r3 hf
            refine .inr (.inl ⟨p, xs, e1, hh, fun z => ?_, fun _ => (q.grow gg).tup g3.ph (rl.cut l h)⟩)
            have e2 : cutL ds l h = ds := by
              unfold cutL
              rw [rl.length, z.1, z.2, List.drop_zero, Nat.sub_zero, ← rl.length, List.take_length]
            rw [e2] at q
            exact (q.grow gg).flat g3.ph ⟨p, xs, e1 ▸ rfl, hp, rl⟩
          · cases hm
        · rename_i ns
          cases hm
          obtain ⟨p, e1, hh, _⟩ := r3
          refine .inl ⟨p, _, e1, sql_mono g3.ph hh, ?_⟩
          have := (q.grow gg).lst (xs := (cutL ns l h).map .int) g3.ph (repL_ints _)
          have e2 : cutV (ns.map V.int) l h = (cutL ns l h).map .int := cutL_map V.int ns l h
          rw [e2]
          exact this
        · rename_i s
          split at hm
          · rename_i hl
            cases hm
            refine .inr (.inr ⟨⟨s.toArray⟩, r3.1, by rw [str_len]; exact lim_le hl, (q.grow gg).flat g3.ph ⟨?_, rfl⟩⟩)
            unfold cutS cutL
            rw [str_len]
          · cases hm
        · cases hm

/-! ### in -/
def flatD : D → Bool
  | .non => true | .bl _ => true | .int _ => true | .str _ => true | _ => false
def eqF : D → D → Bool
  | .non, .non => true
  | .bl a, .bl b => a == b
  | .bl a, .int b => (if a then 1 else 0) == b
  | .int a, .bl b => a == (if b then 1 else 0)
  | .int a, .int b => a == b
  | .str a, .str b => a == b
  | _, _ => false
theorem flat_v {c : LC} {P H : Hp} : ∀ {d : D} {v : V} {U : FP}, flatD d = true → Rep c P H d v U → flatV v = true
  | .non, v, U, _, r => by rw [r.1]; rfl
  | .bl _, v, U, _, r => by rw [r.1]; rfl
  | .int _, v, U, _, r => by rw [r.1]; rfl
  | .str _, v, U, _, r => by rw [r.1]; rfl
theorem str_beq (a b : List Nat) : ((⟨a.toArray⟩ : Str) == ⟨b.toArray⟩) = (a == b) := by
  rw [Bool.eq_iff_iff, beq_iff_eq, beq_iff_eq]
  exact ⟨fun h => by have := congrArg (fun z : Str => z.cps.toList) h; simpa using this, fun h => by rw [h]⟩
theorem eqF_v {c : LC} {P H : Hp} {d e : D} {v u : V} {U1 U2 : FP} (h1 : flatD d = true) (h2 : flatD e = true) (r1 : Rep c P H d v U1) (r2 : Rep c P H e u U2) : eqV v u = eqF d e := by
  cases d <;> first | cases h1 | skip
  all_goals (cases e <;> first | cases h2 | skip)
  all_goals (rw [r1.1, r2.1])
  all_goals first
    | rfl
    | exact str_beq _ _
theorem any_v {c : LC} {P H : Hp} {d : D} {v : V} {U1 : FP} (h1 : flatD d = true) (r1 : Rep c P H d v U1) : ∀ {ds : List D} {xs : List V} {U2 : FP}, ds.all flatD = true → RepL c P H ds xs U2 → xs.all flatV = true ∧ inV v xs = ds.any (fun y => eqF y d)
  | [], xs, U2, _, r => by rw [r.1]; exact ⟨rfl, rfl⟩
  | e :: ds, xs, U2, h, ⟨y, ys, T, T2, e1, r, rs, _⟩ => by
    simp only [List.all_cons, Bool.and_eq_true] at h
    obtain ⟨k1, k2⟩ := any_v h1 r1 h.2 rs
    subst e1
    refine ⟨by rw [List.all_cons, flat_v h.1 r, k1]; rfl, ?_⟩
    unfold inV at k2 ⊢
    rw [List.any_cons, List.any_cons, k2, eqF_v h.1 h1 r r1]
def inB : D → D → Option Bool
  | .str [k], .str z => some (decide (k ∈ z))
  | x, .lst _ ds => if flatD x = true ∧ ds.all flatD = true then some (ds.any fun y => eqF y x) else none
  | x, .tup ds => if flatD x = true ∧ ds.all flatD = true then some (ds.any fun y => eqF y x) else none
  | .str x, .kst ss => some (ss.any fun y => y == x)
  | x, .dK _ ks ds => (keyD x).map fun k => (under ks ds k).isSome
  | _, _ => none
def inD (x y : D) : Option D := (inB x y).map .bl
def ninD (x y : D) : Option D := (inB x y).map fun k => .bl (!k)
theorem kst_any {x : List Nat} : ∀ ss : List (List Nat), (ss.map fun s => V.str ⟨s.toArray⟩).all flatV = true ∧ inV (.str ⟨x.toArray⟩) (ss.map fun s => V.str ⟨s.toArray⟩) = ss.any fun y => y == x
  | [] => ⟨rfl, rfl⟩
  | s :: ss => by
    obtain ⟨h1, h2⟩ := kst_any (x := x) ss
    refine ⟨by rw [List.map_cons, List.all_cons, h1]; rfl, ?_⟩
    unfold inV at h2 ⊢
    rw [List.map_cons, List.any_cons, List.any_cons, h2]
    show ((⟨s.toArray⟩ : Str) == ⟨x.toArray⟩ || _) = _
    rw [str_beq]
theorem isSome_under {c : LC} {P H : Hp} {κ : Type} [DecidableEq κ] {ks : List κ} {ds : List D} {xs : List V} {S : FP} {k : κ} (r : RepL c P H ds xs S) (n : ks.length = xs.length) : (valV (ks.zip xs) k).isSome = (under ks ds k).isSome := by
  cases h : under ks ds k with
  | none => rw [under_none r n h]; rfl
  | some d => obtain ⟨x, T, h1, _⟩ := under_val r n h; rw [h1]; rfl
/-- in, by any of the rules -/
def tIn (K : PySem.W.Frag) (neg : Bool) (ta tb : TE) : TE := fun σ H Q =>
  tOp (fun x y H Q => (∃ (c : Nat) (z : Str), x = .str ⟨#[c]⟩ ∧ y = .str z ∧ Q (.bl (if neg then !decide (c ∈ z.cps.toList) else decide (c ∈ z.cps.toList))) H) ∨ rIn K neg x y H Q) ta tb σ H Q ∨ (if neg then tDNotIn ta tb else tDIn ta tb) σ H Q
theorem tIn_run {c : LC} {neg : Bool} {σ : St} {H : Hp} {Q : VK} {P : Hp} {S T : FP} {ρ : List D} {da db : D} {k : Bool} (w : Wd c E P S T σ H ρ) (ea : ma ρ = some da) (eb : mb ρ = some db) (hm : inB da db = some k)
    (q : ∀ H' P', Gr P H P' H' → Q (.bl (if neg then !k else k)) H') : tIn c.K neg (tR c E ma) (tR c E mb) σ H Q := by
  have seq : ∀ (hf : flatD da = true) (ds : List D), ds.all flatD = true → (k = ds.any fun y => eqF y da) → ∀ H2 P2 x y U1, Gr P H P2 H2 → Rep c P2 H2 da x U1 → (∃ p xs U2, y = V.ref p ∧ (SqL c.K H2 p xs ∨ SqT c.K H2 p xs) ∧ RepL c P2 H2 ds xs U2) → rIn c.K neg x y H2 Q := by
    intro hf ds hds hk H2 P2 x y U1 g r1 ⟨p, xs, U2, e1, hs, rl⟩
    obtain ⟨k1, k2⟩ := any_v hf r1 hds rl
    refine ⟨p, xs, e1, hs, flat_v hf r1, k1, ?_⟩
    rw [k2, ← hk]
    exact q H2 P2 g
  unfold inB at hm
  split at hm
  · rename_i j z
    cases hm
    refine .inl ⟨P, S, T, ρ, _, w, ea, fun x H1 P1 U1 g1 r1 => ⟨P1, S, T, ρ, _, w.grow g1, eb, fun y H2 P2 U2 g2 r2 => .inl ⟨j, _, r1.1, r2.1, by simpa using q H2 P2 (g1.trans g2)⟩⟩⟩
  · rename_i o ds
    split at hm
    · rename_i hf
      cases hm
      refine .inl ⟨P, S, T, ρ, _, w, ea, fun x H1 P1 U1 g1 r1 => ⟨P1, S, T, ρ, _, w.grow g1, eb, fun y H2 P2 U2 g2 r2 => .inr ?_⟩⟩
      obtain ⟨p, xs, T', e1, hh, rl, _⟩ := lst_heap g2.ph r2
      exact seq hf.1 ds hf.2 rfl H2 P2 x y U1 (g1.trans g2) (r1.gr g2) ⟨p, xs, T', e1, .inl (.inl (.inl hh)), rl⟩
    · cases hm
  · rename_i ds
    split at hm
    · rename_i hf
      cases hm
      refine .inl ⟨P, S, T, ρ, _, w, ea, fun x H1 P1 U1 g1 r1 => ⟨P1, S, T, ρ, _, w.grow g1, eb, fun y H2 P2 U2 g2 r2 => .inr ?_⟩⟩
      obtain ⟨p, xs, e1, hh, rl⟩ := r2
      exact seq hf.1 ds hf.2 rfl H2 P2 x y U1 (g1.trans g2) (r1.gr g2) ⟨p, xs, U2, e1, .inr (sqt_mono g2.ph hh), rl⟩
    · cases hm
  · rename_i x0 ss
    cases hm
    refine .inl ⟨P, S, T, ρ, _, w, ea, fun x H1 P1 U1 g1 r1 => ⟨P1, S, T, ρ, _, w.grow g1, eb, fun y H2 P2 U2 g2 r2 => .inr ?_⟩⟩
    obtain ⟨p, e1, hh, _⟩ := r2
    obtain ⟨k1, k2⟩ := kst_any (x := x0) ss
    refine ⟨p, _, e1, .inr (sqt_mono g2.ph hh), by rw [r1.1]; rfl, k1, ?_⟩
    rw [r1.1, k2]
    exact q H2 P2 (g1.trans g2)
  · rename_i o ks ds
    cases z : keyD da with
    | none => rw [z] at hm; cases hm
    | some kk =>
      rw [z] at hm
      cases hm
      right
      have run : ∀ H2 P2 x y U1 U2, Gr P H P2 H2 → Rep c P2 H2 da x U1 → Rep c P2 H2 (.dK o ks ds) y U2 → ∃ a o', y = V.ref a ∧ DGet H2 a x o' ∧ o'.isSome = (under ks ds kk).isSome := by
        intro H2 P2 x y U1 U2 g r1 r2
        obtain ⟨p, xs, e1, hh, n, ey, T', rl⟩ := (dict_under g.ph) o ks ds rfl kk z r2 r1
        exact ⟨p, _, e1, .inl ⟨_, kk, .inl hh, ey, rfl⟩, isSome_under rl n⟩
      cases neg with
      | true =>
        refine ⟨P, S, T, ρ, _, w, ea, fun x H1 P1 U1 g1 r1 => ⟨P1, S, T, ρ, _, w.grow g1, eb, fun y H2 P2 U2 g2 r2 => ?_⟩⟩
        obtain ⟨a, o', e1, dg, es⟩ := run H2 P2 x y U1 U2 (g1.trans g2) (r1.gr g2) r2
        exact ⟨a, o', e1, dg, by rw [es]; exact q H2 P2 (g1.trans g2)⟩
      | false =>
        refine ⟨P, S, T, ρ, _, w, ea, fun x H1 P1 U1 g1 r1 => ⟨P1, S, T, ρ, _, w.grow g1, eb, fun y H2 P2 U2 g2 r2 => ?_⟩⟩
        obtain ⟨a, o', e1, dg, es⟩ := run H2 P2 x y U1 U2 (g1.trans g2) (r1.gr g2) r2
        exact ⟨a, o', e1, dg, by rw [es]; exact q H2 P2 (g1.trans g2)⟩
  · cases hm
theorem opr_inS : OpR X (compareOp .In) (fun x y H Q => (∃ (c : Nat) (z : Str), x = .str ⟨#[c]⟩ ∧ y = .str z ∧ Q (.bl (if false = true then !decide (c ∈ z.cps.toList) else decide (c ∈ z.cps.toList))) H) ∨ rIn X.K false x y H Q) := OpR_or op_in_sign op_in_seq
theorem opr_ninS : OpR X (compareOp .NotIn) (fun x y H Q => (∃ (c : Nat) (z : Str), x = .str ⟨#[c]⟩ ∧ y = .str z ∧ Q (.bl (if true = true then !decide (c ∈ z.cps.toList) else decide (c ∈ z.cps.toList))) H) ∨ rIn X.K true x y H Q) := OpR_or op_notIn_sign op_notIn_seq
theorem m2_split {f : D → D → Option D} {ρ : List D} {d : D} (h : m2 f ma mb ρ = some d) : ∃ da db, ma ρ = some da ∧ mb ρ = some db ∧ f da db = some d := by
  unfold m2 at h
  cases ea : ma ρ with
  | none => rw [ea] at h; cases h
  | some da =>
    cases eb : mb ρ with
    | none => rw [ea, eb] at h; cases h
    | some db => rw [ea, eb] at h; exact ⟨da, db, rfl, rfl, h⟩
theorem inD_split {x y d : D} (h : inD x y = some d) : ∃ k, inB x y = some k ∧ d = .bl k := by
  unfold inD at h
  cases z : inB x y with
  | none => rw [z] at h; cases h
  | some k => rw [z] at h; cases h; exact ⟨k, rfl, rfl⟩
theorem ninD_split {x y d : D} (h : ninD x y = some d) : ∃ k, inB x y = some k ∧ d = .bl (!k) := by
  unfold ninD at h
  cases z : inB x y with
  | none => rw [z] at h; cases h
  | some k => rw [z] at h; cases h; exact ⟨k, rfl, rfl⟩
theorem f_in (hu : X.A.units + 64 < cLine) (ha : PE X a (tR ⟨X.K, cl⟩ E ma)) (hb : PE X b (tR ⟨X.K, cl⟩ E mb)) (hm : behindInMarks .In b = false := by rfl) : PE X (.Compare a [.In] [b] pos) (tF ⟨X.K, cl⟩ E (m2 inD ma mb)) :=
  PE_imp (PE_or (pe_cmpR opr_inS ha hb hm) (pe_cmp (pc_din (Nat.lt_of_le_of_lt (by omega) hu) ha hb) hm)) fun σ H Q ⟨P, S, T, ρ, d, w, h, q⟩ => by
    obtain ⟨da, db, ea, eb, h⟩ := m2_split h
    obtain ⟨k, h2, rfl⟩ := inD_split h
    exact tIn_run (neg := false) w ea eb h2 fun H' P' g => q _ H' P' fz g ⟨rfl, rfl⟩ (fun _ => Nat.zero_le _) fun a z => by simp [fz] at z
theorem f_nin (hu : X.A.units + 64 < cLine) (ha : PE X a (tR ⟨X.K, cl⟩ E ma)) (hb : PE X b (tR ⟨X.K, cl⟩ E mb)) (hm : behindInMarks .NotIn b = false := by rfl) : PE X (.Compare a [.NotIn] [b] pos) (tF ⟨X.K, cl⟩ E (m2 ninD ma mb)) :=
  PE_imp (PE_or (pe_cmpR opr_ninS ha hb hm) (pe_cmp (pc_dnotin (Nat.lt_of_le_of_lt (by omega) hu) ha hb) hm)) fun σ H Q ⟨P, S, T, ρ, d, w, h, q⟩ => by
    obtain ⟨da, db, ea, eb, h⟩ := m2_split h
    obtain ⟨k, h2, rfl⟩ := ninD_split h
    exact tIn_run (neg := true) w ea eb h2 fun H' P' g => q _ H' P' fz g ⟨rfl, rfl⟩ (fun _ => Nat.zero_le _) fun a z => by simp [fz] at z
theorem t_in (hu : X.A.units + 64 < cLine) (ha : PE X a (tR ⟨X.K, cl⟩ E ma)) (hb : PE X b (tR ⟨X.K, cl⟩ E mb)) (hm : behindInMarks .In b = false := by rfl) : PT X (.Compare a [.In] [b] pos) (tT ⟨X.K, cl⟩ E (bM (m2 inD ma mb))) :=
  PT_imp (PT_or (pt_cmpR opr_inS ha hb hm) (pt_cmp (pc_din (Nat.lt_of_le_of_lt (by omega) hu) ha hb) hm)) fun σ H Q ⟨P, S, T, ρ, d, w, h, q⟩ => by
    obtain ⟨da, db, ea, eb, h⟩ := m2_split (bM_some h)
    obtain ⟨k, h2, e⟩ := inD_split h
    cases e
    exact tIn_run (neg := false) (Q := fun x H' => ∃ k, x = .bl k ∧ Q k H') w ea eb h2 fun H' P' g => ⟨_, rfl, q H' P' g⟩
theorem t_nin (hu : X.A.units + 64 < cLine) (ha : PE X a (tR ⟨X.K, cl⟩ E ma)) (hb : PE X b (tR ⟨X.K, cl⟩ E mb)) (hm : behindInMarks .NotIn b = false := by rfl) : PT X (.Compare a [.NotIn] [b] pos) (tT ⟨X.K, cl⟩ E (bM (m2 ninD ma mb))) :=
  PT_imp (PT_or (pt_cmpR opr_ninS ha hb hm) (pt_cmp (pc_dnotin (Nat.lt_of_le_of_lt (by omega) hu) ha hb) hm)) fun σ H Q ⟨P, S, T, ρ, d, w, h, q⟩ => by
    obtain ⟨da, db, ea, eb, h⟩ := m2_split (bM_some h)
    obtain ⟨k, h2, e⟩ := ninD_split h
    cases e
    exact tIn_run (neg := true) (Q := fun x H' => ∃ k, x = .bl k ∧ Q k H') w ea eb h2 fun H' P' g => ⟨_, rfl, q H' P' g⟩
end
end LI
namespace LI
open PySem L2

section
variable {X : Cx} {cl : Nat → Addr} {E : En} {e a b : Expr} {pos : Pos} {m ma mb : RM}
/-! ### tests -/
def truD : D → Option Bool
  | .non => some false
  | .bl b => some b
  | .int i => some (i != 0)
  | .str s => if s.length ≤ LIM then some (!s.isEmpty) else none
  | .tup ds => some (!ds.isEmpty)
  | .lst _ ds => some (!ds.isEmpty)
  | .scr ns => some (!ns.isEmpty)
  | _ => none
def truM (m : RM) : BM := fun ρ => (m ρ).bind truD
theorem emp_eq {α β : Type} {xs : List α} {ys : List β} (h : xs.length = ys.length) : xs.isEmpty = ys.isEmpty := by
  cases xs <;> cases ys <;> first | rfl | (simp at h)
theorem truD_v {c : LC} {P H : Hp} (e : Ex P H) : ∀ {d : D} {v : V} {U : FP} {k : Bool}, truD d = some k → Rep c P H d v U → TruV c.K v H k
  | .non, v, U, k, h, r => by cases h; rw [r.1]; rfl
  | .bl b, v, U, k, h, r => by cases h; rw [r.1]; rfl
  | .int b, v, U, k, h, r => by cases h; rw [r.1]; rfl
  | .str s, v, U, k, h, r => by
    replace h : (if s.length ≤ LIM then some (!s.isEmpty) else none) = some k := h
    by_cases hl : s.length ≤ LIM
    · rw [if_pos hl] at h
      cases h
      rw [r.1]
      refine ⟨by rw [str_len]; exact lim_le hl, ?_⟩
      rw [str_len]
      cases s with
      | nil => rfl
      | cons x s =>
        have : ((x :: s).length : Int) ≠ 0 := by rw [List.length_cons]; omega
        simp [bne, this]
        omega
    · rw [if_neg hl] at h; cases h
  | .tup ds, v, U, k, h, ⟨a, xs, e1, hp, rl⟩ => by cases h; rw [e1]; exact .inr (.inl ⟨xs, sqt_mono e hp, by rw [emp_eq rl.length]⟩)
  | .lst o ds, v, U, k, h, r => by
    cases h
    obtain ⟨p, xs, T, e1, hh, rl, _⟩ := lst_heap e r
    rw [e1]
    exact .inl ⟨xs, .inl (.inl hh), by rw [emp_eq rl.length]⟩
  | .scr ns, v, U, k, h, ⟨a, e1, hp, _⟩ => by cases h; rw [e1]; exact .inl ⟨_, sql_mono e hp, by rw [emp_eq (List.length_map (f := V.int))]⟩
  | .gone, _, _, _, h, _ => by cases h
  | .kst _, _, _, _, h, _ => by cases h
  | .dK .., _, _, _, h, _ => by cases h
  | .dT .., _, _, _, h, _ => by cases h
  | .obj .., _, _, _, h, _ => by cases h
theorem t_val (ha : PE X a (tR ⟨X.K, cl⟩ E m)) (he : ∀ whole, isTrue a X.env whole = (do let v ← whole; standAt a.pos; holding [v] (truthy v)) := by intro _; rfl) : PT X a (tT ⟨X.K, cl⟩ E (truM m)) :=
  PT_imp (pt_truth ha he) fun σ H Q ⟨P, S, T, ρ, b, w, hm, q⟩ => by
    unfold truM at hm
    cases ea : m ρ with
    | none => rw [ea] at hm; cases hm
    | some d =>
      rw [ea] at hm
      exact ⟨P, S, T, ρ, d, w, ea, fun v H' P' U g r => ⟨b, truD_v g.ph hm r, q H' P' g⟩⟩
def notB (m : BM) : BM := fun ρ => (m ρ).map not
def andB (ma mb : BM) : BM := fun ρ => (ma ρ).bind fun k => if k = true then mb ρ else some false
def orB (ma mb : BM) : BM := fun ρ => (ma ρ).bind fun k => if k = true then some true else mb ρ
theorem t_not {m : BM} (h : PT X a (tT ⟨X.K, cl⟩ E m)) : PT X (.UnaryOp .Not a pos) (tT ⟨X.K, cl⟩ E (notB m)) := PT_imp (pt_not h) fun σ H Q ⟨P, S, T, ρ, b, w, hm, q⟩ => by
  unfold notB at hm
  cases ea : m ρ with
  | none => rw [ea] at hm; cases hm
  | some k =>
    rw [ea] at hm
    cases hm
    exact ⟨P, S, T, ρ, k, w, ea, q⟩
theorem w_and1 {m : BM} (h : PT X a (tT ⟨X.K, cl⟩ E m)) : PW X (.BoolOp .And [a] pos) (tT ⟨X.K, cl⟩ E m) := pw_and1 h
theorem w_or1 {m : BM} (h : PT X a (tT ⟨X.K, cl⟩ E m)) : PW X (.BoolOp .Or [a] pos) (tT ⟨X.K, cl⟩ E m) := pw_or1 h
theorem w_and {ma mb : BM} {rest : List Expr} (h : PT X a (tT ⟨X.K, cl⟩ E ma)) (k : PW X (.BoolOp .And (b :: rest) pos) (tT ⟨X.K, cl⟩ E mb)) : PW X (.BoolOp .And (a :: b :: rest) pos) (tT ⟨X.K, cl⟩ E (andB ma mb)) :=
  PW_imp (pw_and h k) fun σ H Q ⟨P, S, T, ρ, d, w, hm, q⟩ => by
    unfold andB at hm
    cases ea : ma ρ with
    | none => rw [ea] at hm; cases hm
    | some x =>
      rw [ea] at hm
      refine ⟨P, S, T, ρ, x, w, ea, fun H' P' g => ?_⟩
      cases x with
      | true => exact iteT ⟨P', S, T, ρ, d, w.grow g, hm, fun H2 P2 g2 => q H2 P2 (g.trans g2)⟩
      | false => cases hm; exact iteF (q H' P' g)
theorem w_or {ma mb : BM} {rest : List Expr} (h : PT X a (tT ⟨X.K, cl⟩ E ma)) (k : PW X (.BoolOp .Or (b :: rest) pos) (tT ⟨X.K, cl⟩ E mb)) : PW X (.BoolOp .Or (a :: b :: rest) pos) (tT ⟨X.K, cl⟩ E (orB ma mb)) :=
  PW_imp (pw_or h k) fun σ H Q ⟨P, S, T, ρ, d, w, hm, q⟩ => by
    unfold orB at hm
    cases ea : ma ρ with
    | none => rw [ea] at hm; cases hm
    | some x =>
      rw [ea] at hm
      refine ⟨P, S, T, ρ, x, w, ea, fun H' P' g => ?_⟩
      cases x with
      | true => cases hm; exact iteT (q H' P' g)
      | false => exact iteF ⟨P', S, T, ρ, d, w.grow g, hm, fun H2 P2 g2 => q H2 P2 (g.trans g2)⟩
theorem t_w {m : BM} (h : PW X a (tT ⟨X.K, cl⟩ E m)) : PT X a (tT ⟨X.K, cl⟩ E m) := h.pt

/-! ### and, or, not as values -/
def notD (m : RM) : RM := fun ρ => ((m ρ).bind truD).map fun k => .bl (!k)
def andM (ma mb : RM) : RM := fun ρ => (bM ma ρ).bind fun k => if k = true then mb ρ else some (.bl false)
def orM (ma mb : RM) : RM := fun ρ => (bM ma ρ).bind fun k => if k = true then some (.bl true) else mb ρ
theorem f_not (ha : PE X a (tR ⟨X.K, cl⟩ E m)) : PE X (.UnaryOp .Not a pos) (tF ⟨X.K, cl⟩ E (notD m)) := PE_imp (pe_notT ha) fun σ H Q ⟨P, S, T, ρ, d, w, hm, q⟩ => by
  unfold notD at hm
  cases ea : m ρ with
  | none => rw [ea] at hm; cases hm
  | some da =>
    rw [ea] at hm
    cases et : truD da with
    | none => rw [Option.bind_some, et] at hm; cases hm
    | some k =>
      rw [Option.bind_some, et] at hm
      cases hm
      exact ⟨P, S, T, ρ, da, w, ea, fun v H' P' U g r => ⟨k, truD_v g.ph et r, (q.grow g).flat g.ph ⟨rfl, rfl⟩⟩⟩
theorem f_one {op} {m : RM} (h : PE X a (tF ⟨X.K, cl⟩ E m)) : PE X (.BoolOp op [a] pos) (tF ⟨X.K, cl⟩ E m) := pe_one h
theorem f_and {rest : List Expr} (ha : PE X a (tR ⟨X.K, cl⟩ E ma)) (hb : PE X (.BoolOp .And (b :: rest) pos) (tF ⟨X.K, cl⟩ E mb)) : PE X (.BoolOp .And (a :: b :: rest) pos) (tF ⟨X.K, cl⟩ E (andM ma mb)) := PE_imp (pe_and ha hb) fun σ H Q ⟨P, S, T, ρ, d, w, hm, q⟩ => by
  unfold andM at hm
  cases ea : bM ma ρ with
  | none => rw [ea] at hm; cases hm
  | some k =>
    rw [ea] at hm
    refine ⟨P, S, T, ρ, .bl k, w, bM_some ea, fun v H' P' U g r => ⟨k, r.1, ?_⟩⟩
    cases k with
    | true => exact iteT ⟨P', S, T, ρ, d, w.grow g, hm, q.grow g⟩
    | false => cases hm; exact iteF ((q.grow g).flat g.ph ⟨rfl, rfl⟩)
theorem f_or {rest : List Expr} (ha : PE X a (tR ⟨X.K, cl⟩ E ma)) (hb : PE X (.BoolOp .Or (b :: rest) pos) (tF ⟨X.K, cl⟩ E mb)) : PE X (.BoolOp .Or (a :: b :: rest) pos) (tF ⟨X.K, cl⟩ E (orM ma mb)) := PE_imp (pe_or ha hb) fun σ H Q ⟨P, S, T, ρ, d, w, hm, q⟩ => by
  unfold orM at hm
  cases ea : bM ma ρ with
  | none => rw [ea] at hm; cases hm
  | some k =>
    rw [ea] at hm
    refine ⟨P, S, T, ρ, .bl k, w, bM_some ea, fun v H' P' U g r => ⟨k, r.1, ?_⟩⟩
    cases k with
    | false => exact iteF ⟨P', S, T, ρ, d, w.grow g, hm, q.grow g⟩
    | true => cases hm; exact iteT ((q.grow g).flat g.ph ⟨rfl, rfl⟩)
def iteM (mc : BM) (ma mb : RM) : RM := fun ρ => (mc ρ).bind fun k => if k = true then ma ρ else mb ρ
theorem f_ite {c0 : Expr} {mc : BM} (hc : PT X c0 (tT ⟨X.K, cl⟩ E mc)) (ha : PE X a (tF ⟨X.K, cl⟩ E ma)) (hb : PE X b (tF ⟨X.K, cl⟩ E mb)) : PE X (.IfExp c0 a b pos) (tF ⟨X.K, cl⟩ E (iteM mc ma mb)) := PE_imp (pe_ifExp hc ha hb) fun σ H Q ⟨P, S, T, ρ, d, w, hm, q⟩ => by
  unfold iteM at hm
  cases ea : mc ρ with
  | none => rw [ea] at hm; cases hm
  | some k =>
    rw [ea] at hm
    refine ⟨P, S, T, ρ, k, w, ea, fun H' P' g => ?_⟩
    cases k with
    | true => exact iteT ⟨P', S, T, ρ, d, w.grow g, hm, q.grow g⟩
    | false => exact iteF ⟨P', S, T, ρ, d, w.grow g, hm, q.grow g⟩
/-- a op b op' c -/
def chM (f g : D → D → Option D) (ma mb mc : RM) : RM := fun ρ => (ma ρ).bind fun x => (mb ρ).bind fun y => (f x y).bind fun z => match z with | .bl true => (mc ρ).bind fun u => g y u | .bl false => some (.bl false) | _ => none
theorem ch_run {r r' : R2} {f g : D → D → Option D} {mc : RM} (hf : Op2 ⟨X.K, cl⟩ r f) (hg : Op2 ⟨X.K, cl⟩ r' g) {σ : St} {H : Hp} {Q : VK} (h : tF ⟨X.K, cl⟩ E (chM f g ma mb mc) σ H Q) : tChain r r' (tR ⟨X.K, cl⟩ E ma) (tR ⟨X.K, cl⟩ E mb) (tR ⟨X.K, cl⟩ E mc) σ H Q := by
  obtain ⟨P, S, T, ρ, d, w, hm, q⟩ := h
  unfold chM at hm
  cases ea : ma ρ with
  | none => rw [ea] at hm; cases hm
  | some da =>
    cases eb : mb ρ with
    | none => rw [ea, eb] at hm; cases hm
    | some db =>
      rw [ea, eb] at hm
      simp only [Option.bind_some] at hm
      cases ez : f da db with
      | none => rw [ez] at hm; cases hm
      | some z =>
        rw [ez, Option.bind_some] at hm
        refine ⟨P, S, T, ρ, da, w, ea, fun x H1 P1 U1 g1 r1 => ⟨P1, S, T, ρ, db, w.grow g1, eb, fun y H2 P2 U2 g2 r2 => ?_⟩⟩
        refine hf P2 H2 g2.ph _ _ _ _ _ _ _ ez (r1.gr g2) r2 _ fun v H3 P3 U3 g3 r3 _ _ => ?_
        split at hm
        · cases ec : mc ρ with
          | none => rw [ec] at hm; cases hm
          | some dc =>
            rw [ec] at hm
            refine ⟨true, r3.1, iteT ⟨P3, S, T, ρ, dc, ((w.grow g1).grow g2).grow g3, ec, fun u H4 P4 U4 g4 r4 => ?_⟩⟩
            exact hg P4 H4 g4.ph _ _ _ _ _ _ _ hm ((r2.gr g3).gr g4) r4 Q (q.grow (((g1.trans g2).trans g3).trans g4))
        · cases hm
          exact ⟨false, r3.1, iteF ((q.grow ((g1.trans g2).trans g3)).flat g3.ph ⟨rfl, rfl⟩)⟩
        · cases hm
theorem f_ch {r r' : R2} {f g : D → D → Option D} {mc : RM} {op op' : CmpOp} {c0 : Expr} (ho : OpR X (compareOp op) r) (hf : Op2 ⟨X.K, cl⟩ r f) (ho' : OpR X (compareOp op') r') (hg : Op2 ⟨X.K, cl⟩ r' g)
    (ha : PE X a (tR ⟨X.K, cl⟩ E ma)) (hb : PE X b (tR ⟨X.K, cl⟩ E mb)) (hc : PE X c0 (tR ⟨X.K, cl⟩ E mc)) (hm : lastMarks [op, op'] [b, c0] = false := by with_unfolding_all rfl) : PE X (.Compare a [op, op'] [b, c0] pos) (tF ⟨X.K, cl⟩ E (chM f g ma mb mc)) :=
  PE_imp (pe_chain ho ho' ha hb hc hm) fun _ _ _ h => ch_run hf hg h
theorem t_ch {r r' : R2} {f g : D → D → Option D} {mc : RM} {op op' : CmpOp} {c0 : Expr} (ho : OpR X (compareOp op) r) (hf : Op2 ⟨X.K, cl⟩ r f) (ho' : OpR X (compareOp op') r') (hg : Op2 ⟨X.K, cl⟩ r' g)
    (ha : PE X a (tR ⟨X.K, cl⟩ E ma)) (hb : PE X b (tR ⟨X.K, cl⟩ E mb)) (hc : PE X c0 (tR ⟨X.K, cl⟩ E mc)) (hm : lastMarks [op, op'] [b, c0] = false := by with_unfolding_all rfl) : PT X (.Compare a [op, op'] [b, c0] pos) (tT ⟨X.K, cl⟩ E (bM (chM f g ma mb mc))) :=
  t_test (pt_chain ho ho' ha hb hc hm) fun _ _ _ h => ch_run hf hg h

/-! ### built-ins by name -/
def mA (f : List D → Option D) (ms : AM) : RM := fun ρ => (ms ρ).bind f
def OpA (c : LC) (r : List V → Hp → VK → Prop) (f : List D → Option D) : Prop := ∀ (P H : Hp), Ex P H → ∀ ds d vs U, f ds = some d → RepL c P H ds vs U → ∀ Q, FQ c P H d Q → r vs H Q
theorem opA_run {r : List V → Hp → VK → Prop} {f : List D → Option D} {ms : AM} (hf : OpA ⟨X.K, cl⟩ r f) {σ : St} {H : Hp} {Q : VK} (h : tF ⟨X.K, cl⟩ E (mA f ms) σ H Q) : tCB r (tAR ⟨X.K, cl⟩ E ms) σ H Q := by
  obtain ⟨P, S, T, ρ, d, w, hm, q⟩ := h
  unfold mA at hm
  cases ea : ms ρ with
  | none => rw [ea] at hm; cases hm
  | some ds =>
    rw [ea] at hm
    exact ⟨P, S, T, ρ, ds, w, ea, fun vs H1 P1 U1 g1 r1 => hf P1 H1 g1.ph ds d vs U1 hm r1 Q (q.grow g1)⟩
theorem f_blt {r : List V → Hp → VK → Prop} {f : List D → Option D} {ms : AM} {id : String} {x : Str} {es : List Expr} {p : Pos} (hc : CallR X (.builtin id) r) (hf : OpA ⟨X.K, cl⟩ r f) (hg : Gl X x) (hm : X.mg x = none) (hv : bootBuiltins x = some (.builtin id)) (ha : PA X (e :: es) (tAR ⟨X.K, cl⟩ E ms)) (hn : x ≠ "__name__" := by decide) (hdb : (x == ("__debug__" : Str)) = false := by decide)
    (he : starEach (e :: es) X.env = (false, eval e X.env) :: starEach es X.env := by rfl) (hpl : (backTo pos (starEach es X.env)).any (·.1) = false := by rfl) : PE X (.Call (.Name x p) (e :: es) [] pos) (tF ⟨X.K, cl⟩ E (mA f ms)) :=
  PE_imp (pe_callB hc hg hm hv ha hn hdb he hpl) fun _ _ _ h => opA_run hf h
theorem f_bty {r : List V → Hp → VK → Prop} {f : List D → Option D} {ms : AM} {id : String} {x : Str} {es : List Expr} {p : Pos} (hc : CallR X (.type id) r) (hf : OpA ⟨X.K, cl⟩ r f) (hg : Gl X x) (hm : X.mg x = none) (hv : bootBuiltins x = some (.type id)) (ha : PA X (e :: es) (tAR ⟨X.K, cl⟩ E ms)) (hn : x ≠ "__name__" := by decide) (hdb : (x == ("__debug__" : Str)) = false := by decide)
    (he : starEach (e :: es) X.env = (false, eval e X.env) :: starEach es X.env := by rfl) (hpl : (backTo pos (starEach es X.env)).any (·.1) = false := by rfl) : PE X (.Call (.Name x p) (e :: es) [] pos) (tF ⟨X.K, cl⟩ E (mA f ms)) :=
  PE_imp (pe_callTy hc hg hm hv ha hn hdb he hpl) fun _ _ _ h => opA_run hf h
theorem repL1 {c : LC} {P H : Hp} {d : D} {vs : List V} {U : FP} (r : RepL c P H [d] vs U) : ∃ v T, vs = [v] ∧ Rep c P H d v T := by
  obtain ⟨y, ys, T, T2, e, r1, r2, _⟩ := r
  rw [r2.1] at e
  exact ⟨y, T, e, r1⟩
theorem repL2 {c : LC} {P H : Hp} {d d2 : D} {vs : List V} {U : FP} (r : RepL c P H [d, d2] vs U) : ∃ v v2 T T2, vs = [v, v2] ∧ Rep c P H d v T ∧ Rep c P H d2 v2 T2 := by
  obtain ⟨y, ys, T, T2, e, r1, r2, _⟩ := r
  obtain ⟨v2, T3, e2, r3⟩ := repL1 r2
  rw [e2] at e
  exact ⟨y, v2, T, T3, e, r1, r3⟩
/-- len -/
def lenD : List D → Option D
  | [.str s] => if s.length ≤ LIM then some (.int s.length) else none
  | [.tup ds] => some (.int ds.length)
  | [.lst _ ds] => some (.int ds.length)
  | [.scr ns] => some (.int ns.length)
  | [.dK _ ks _] => some (.int ks.length)
  | _ => none
def rLenA (K : PySem.W.Frag) : List V → Hp → VK → Prop := fun xs H Q => (∃ x n, xs = [x] ∧ LenV K x H n ∧ Q (.int n) H) ∨ (∃ a kvs, xs = [V.ref a] ∧ H a = some (.dK kvs) ∧ Q (.int kvs.length) H)
theorem cr_len : CallR X (.builtin "len") (rLenA X.K) := call_len.or call_lenD
theorem op_lenD {c : LC} : OpA c (rLenA c.K) lenD := by
  intro P H e ds d vs U hf r Q q
  unfold lenD at hf
  split at hf
  · split at hf
    · rename_i s hl
      cases hf
      obtain ⟨v, T, rfl, r1⟩ := repL1 r
      exact .inl ⟨_, _, rfl, by rw [r1.1]; exact ⟨by rw [str_len]; exact lim_le hl, by rw [str_len]⟩, q.flat e ⟨rfl, rfl⟩⟩
    · cases hf
  · cases hf
    obtain ⟨v, T, rfl, a, xs, rfl, h, rl⟩ := repL1 r
    exact .inl ⟨_, _, rfl, .inr ⟨xs, sqt_mono e h, rfl⟩, by rw [← rl.length]; exact q.flat e ⟨rfl, rfl⟩⟩
  · cases hf
    obtain ⟨v, T, rfl, r1⟩ := repL1 r
    obtain ⟨a, xs, T', rfl, h, rl, _⟩ := lst_heap e r1
    exact .inl ⟨_, _, rfl, .inl ⟨xs, .inl (.inl h), rfl⟩, by rw [← rl.length]; exact q.flat e ⟨rfl, rfl⟩⟩
  · cases hf
    obtain ⟨v, T, rfl, a, rfl, h, _⟩ := repL1 r
    exact .inl ⟨_, _, rfl, .inl ⟨_, sql_mono e h, rfl⟩, by rw [List.length_map]; exact q.flat e ⟨rfl, rfl⟩⟩
  · rename_i o ks ds'
    cases hf
    obtain ⟨v, T, rfl, r1⟩ := repL1 r
    right
    have : ∃ a xs, v = .ref a ∧ H a = some (.dK (ks.zip xs)) ∧ ks.length = xs.length := by
      cases o with
      | true => obtain ⟨a, xs, T, e1, h, n, _⟩ := r1; exact ⟨a, xs, e1, h, n⟩
      | false => obtain ⟨a, xs, e1, h, n, _⟩ := r1; exact ⟨a, xs, e1, e _ _ h, n⟩
    obtain ⟨a, xs, rfl, h, n⟩ := this
    refine ⟨a, _, rfl, h, ?_⟩
    rw [List.length_zip, ← n, Nat.min_self]
    exact q.flat e ⟨rfl, rfl⟩
  · cases hf
/-- max, min of two ints -/
def max2D : List D → Option D
  | [.int i, .int j] => some (.int (if j > i then j else i))
  | _ => none
def min2D : List D → Option D
  | [.int i, .int j] => some (.int (if j < i then j else i))
  | _ => none
theorem op_max2D {c : LC} : OpA c (fun xs H Q => ∃ i j, xs = [.int i, .int j] ∧ Q (.int (if j > i then j else i)) H) max2D := by
  intro P H e ds d vs U hf r Q q
  unfold max2D at hf
  split at hf
  · cases hf
    obtain ⟨v, v2, T, T2, rfl, r1, r2⟩ := repL2 r
    exact ⟨_, _, by rw [r1.1, r2.1], q.flat e ⟨rfl, rfl⟩⟩
  · cases hf
theorem op_min2D {c : LC} : OpA c (fun xs H Q => ∃ i j, xs = [.int i, .int j] ∧ Q (.int (if j < i then j else i)) H) min2D := by
  intro P H e ds d vs U hf r Q q
  unfold min2D at hf
  split at hf
  · cases hf
    obtain ⟨v, v2, T, T2, rfl, r1, r2⟩ := repL2 r
    exact ⟨_, _, by rw [r1.1, r2.1], q.flat e ⟨rfl, rfl⟩⟩
  · cases hf
/-- int of an int, of a truth -/
def intD : List D → Option D
  | [.int i] => some (.int i)
  | [.bl k] => some (.int (if k then 1 else 0))
  | _ => none
theorem op_intD {c : LC} : OpA c (fun xs H Q => (∃ i, xs = [.int i] ∧ Q (.int i) H) ∨ ∃ k, xs = [.bl k] ∧ Q (.int (if k then 1 else 0)) H) intD := by
  intro P H e ds d vs U hf r Q q
  unfold intD at hf
  split at hf
  · cases hf
    obtain ⟨v, T, rfl, r1⟩ := repL1 r
    exact .inl ⟨_, by rw [r1.1], q.flat e ⟨rfl, rfl⟩⟩
  · cases hf
    obtain ⟨v, T, rfl, r1⟩ := repL1 r
    exact .inr ⟨_, by rw [r1.1], q.flat e ⟨rfl, rfl⟩⟩
  · cases hf
/-- the ints of a list -/
def intsD : List D → Option (List Int)
  | [] => some []
  | .int i :: ds => (intsD ds).map fun is => i :: is
  | _ :: _ => none
theorem ints_v {c : LC} {P H : Hp} : ∀ {ds : List D} {xs : List V} {U : FP} {is : List Int}, intsD ds = some is → RepL c P H ds xs U → xs = is.map .int
  | [], xs, U, is, h, r => by cases h; exact r.1
  | .int i :: ds, xs, U, is, h, ⟨y, ys, T, T2, e1, r, rs, _⟩ => by
    unfold intsD at h
    cases z : intsD ds with
    | none => rw [z] at h; cases h
    | some js => rw [z] at h; cases h; rw [e1, r.1, ints_v z rs]; rfl
  | .gone :: _, _, _, _, h, _ | .non :: _, _, _, _, h, _ | .bl _ :: _, _, _, _, h, _ | .str _ :: _, _, _, _, h, _ | .scr _ :: _, _, _, _, h, _ | .kst _ :: _, _, _, _, h, _ | .tup _ :: _, _, _, _, h, _ | .lst .. :: _, _, _, _, h, _ | .dK .. :: _, _, _, _, h, _ | .dT .. :: _, _, _, _, h, _ | .obj .. :: _, _, _, _, h, _ => by simp [intsD] at h
def sumD : List D → Option D
  | [.lst _ ds] => (intsD ds).map fun is => .int is.sum
  | _ => none
theorem op_sumD {c : LC} : OpA c (rSum c.K) sumD := by
  intro P H e ds d vs U hf r Q q
  unfold sumD at hf
  split at hf
  · rename_i o ds'
    obtain ⟨v, T, rfl, r1⟩ := repL1 r
    obtain ⟨a, xs, T', rfl, h, rl, _⟩ := lst_heap e r1
    cases z : intsD ds' with
    | none => rw [z] at hf; cases hf
    | some is =>
      rw [z] at hf; cases hf
      have := ints_v z rl
      subst this
      exact ⟨a, is, rfl, .inl (.inl h), q.flat e ⟨rfl, rfl⟩⟩
  · cases hf
/-- list(xs) -/
def listD : List D → Option D
  | [.lst _ ds] => if frzL ds = true then some (.lst true ds) else none
  | [.tup ds] => if frzL ds = true then some (.lst true ds) else none
  | [.scr ns] => some (.lst true (ns.map .int))
  | _ => none
theorem op_listD {c : LC} : OpA c (fun xs H Q => ∃ p ys, xs = [.ref p] ∧ (SqL c.K H p ys ∨ SqT c.K H p ys) ∧ ∀ l, H l = none → Q (.ref l) (upd H l (.lst ys))) listD := by
  intro P H e ds d vs U hf r Q q
  unfold listD at hf
  split at hf
  · split at hf
    · rename_i hl
      cases hf
      obtain ⟨v, T, rfl, r1⟩ := repL1 r
      obtain ⟨p, xs, rfl, hh, rl⟩ := lst_heap0 e r1 hl
      exact ⟨p, xs, rfl, .inl (.inl (.inl hh)), q.lst e rl⟩
    · cases hf
  · split at hf
    · rename_i hl
      cases hf
      obtain ⟨v, T, rfl, r1⟩ := repL1 r
      obtain ⟨p, xs, rfl, hh, _, rl⟩ := tup_heap0 e r1 hl
      exact ⟨p, xs, rfl, .inr hh, q.lst e rl⟩
    · cases hf
  · cases hf
    obtain ⟨v, T, rfl, p, rfl, hh, _⟩ := repL1 r
    exact ⟨p, _, rfl, .inl (sql_mono e hh), q.lst e (repL_ints _)⟩
  · cases hf
/-- isinstance(x, T), T built-in -/
def tyD : D → Option String
  | .non => some "NoneType"
  | .bl _ => some "bool"
  | .int _ => some "int"
  | .str _ => some "str"
  | .scr _ => some "list"
  | .lst .. => some "list"
  | .tup _ => some "tuple"
  | .dK .. => some "dict"
  | .dT .. => some "dict"
  | _ => none
theorem ty_v {c : LC} {P H : Hp} (e : Ex P H) : ∀ {d : D} {v : V} {U : FP} {t : String}, tyD d = some t → Rep c P H d v U → TyX c.K H v (.type t)
  | .non, v, U, t, h, r => by cases h; rw [r.1]; exact .base .non
  | .bl b, v, U, t, h, r => by cases h; rw [r.1]; exact .base (.bl b)
  | .int b, v, U, t, h, r => by cases h; rw [r.1]; exact .base (.int b)
  | .str b, v, U, t, h, r => by cases h; rw [r.1]; exact .base (.str _)
  | .scr ns, v, U, t, h, ⟨a, e1, q, _⟩ => by
    cases h; rw [e1]
    rcases q with (q | ⟨o, q⟩) | ⟨o, its, n, q, q2, _⟩
    · exact .base (.lst (e _ _ q))
    · exact .base (.frz (e _ _ q))
    · exact .kList q q2
  | .tup ds, v, U, t, h, ⟨a, xs, e1, q, _⟩ => by
    cases h; rw [e1]
    rcases q with (q | ⟨o, q⟩) | ⟨o, its, n, q, q2, _⟩
    · exact .base (.tup (e _ _ q))
    · exact .fTuple (e _ _ q)
    · exact .kTuple q q2
  | .lst o ds, v, U, t, h, r => by
    cases h
    obtain ⟨a, xs, T, e1, hh, _⟩ := lst_heap e r
    rw [e1]; exact .base (.lst hh)
  | .dK true _ _, v, U, t, h, ⟨a, _, _, e1, q, _⟩ => by cases h; rw [e1]; exact .base (.dK q)
  | .dK false _ _, v, U, t, h, ⟨a, _, e1, q, _⟩ => by cases h; rw [e1]; exact .base (.dK (e _ _ q))
  | .dT true _ _, v, U, t, h, ⟨a, _, _, e1, q, _⟩ => by cases h; rw [e1]; exact .base (.dT q)
  | .dT false _ _, v, U, t, h, ⟨a, _, e1, q, _⟩ => by cases h; rw [e1]; exact .base (.dT (e _ _ q))
def isiM (ty : String) (m : RM) : RM := fun ρ => (m ρ).bind fun d => (tyD d).bind fun t => (kitB t ty).map .bl
theorem f_isi {ty : String} {b0 : Expr} {x : Str} {p : Pos} (hg : Gl X x) (hm : X.mg x = none) (hv : bootBuiltins x = some (.builtin "isinstance")) (ha : PE X a (tR ⟨X.K, cl⟩ E ma)) (hb : PE X b0 (tC (.ty ty)))
    (hn : x ≠ "__name__" := by decide) (hdb : (x == ("__debug__" : Str)) = false := by decide)
    (hs1 : starEach [a, b0] X.env = (false, eval a X.env) :: starEach [b0] X.env := by rfl) (hs2 : starEach [b0] X.env = (false, eval b0 X.env) :: starEach [] X.env := by rfl) (hpl : (backTo pos (starEach [b0] X.env)).any (·.1) = false := by rfl) : PE X (.Call (.Name x p) [a, b0] [] pos) (tF ⟨X.K, cl⟩ E (isiM ty ma)) :=
  PE_imp (pe_callB call_isi hg hm hv (pa_cons ha (pa_cons hb pa_nil hs2) hs1) hn hdb hs1 hpl) fun σ H Q ⟨P, S, T, ρ, d, w, h, q⟩ => by
    unfold isiM at h
    cases ea : ma ρ with
    | none => rw [ea] at h; cases h
    | some da =>
      rw [ea, Option.bind_some] at h
      cases et : tyD da with
      | none => rw [et] at h; cases h
      | some t =>
        rw [et, Option.bind_some] at h
        cases ek : kitB t ty with
        | none => rw [ek] at h; cases h
        | some k =>
          rw [ek] at h
          cases h
          exact ⟨P, S, T, ρ, da, w, ea, fun v H1 P1 U1 g1 r1 => ⟨v, .ty ty, .type t, .type ty, k, rfl, .ty ty, ty_v g1.ph et r1, kit_ty ek, (q.grow g1).flat g1.ph ⟨rfl, rfl⟩⟩⟩
end
end LI
namespace LI
open PySem L2

/-! ### what is walked -/
def IterOK (c : LC) (P : Hp) (J : It) (ds : List D) : Prop := ∃ (G : Hp → Prop) (Y : Nat → Hp → V → Hp → Prop), Walk J ds.length G Y ∧ (∀ P2 H2, Ex P P2 → Ex P2 H2 → G H2) ∧
  ∀ i P2 H2 x H3, Ex P P2 → Ex P2 H2 → i < ds.length → Y i H2 x H3 → ∃ P3 d, Gr P2 H2 P3 H3 ∧ ds[i]? = some d ∧ Rep c P3 H3 d x fz
def tI (c : LC) (E : En) (m : AM) : TI := fun σ H R => ∃ P S T ρ ds, Wd c E P S T σ H ρ ∧ m ρ = some ds ∧ ∀ J H' P', Gr P H P' H' → IterOK c P' J ds → R J H'
theorem PI_imp {X : Cx} {tg e : Expr} {t t' : TI} (h : PI X tg e t) (k : ∀ σ H R, t' σ H R → t σ H R) : PI X tg e t' := ⟨fun pins s σ H R I q => h.run pins s σ H R I (k σ H R q)⟩
theorem PI_or {X : Cx} {tg e : Expr} {t u : TI} (h : PI X tg e t) (k : PI X tg e u) : PI X tg e (fun σ H Q => t σ H Q ∨ u σ H Q) := ⟨fun pins s σ H Q I q => q.elim (h.run pins s σ H Q I) (k.run pins s σ H Q I)⟩
def strsD (s : List Nat) : List D := s.map fun k => .str [k]
def itemsD : D → Option (List D)
  | .lst false ds => if frzL ds = true then some ds else none
  | .tup ds => if frzL ds = true then some ds else none
  | .scr ns => some (ns.map .int)
  | .str s => some (strsD s)
  | _ => none
def itM (m : RM) : AM := fun ρ => (m ρ).bind itemsD
theorem rep_get0 {c : LC} {P H : Hp} {ds : List D} {xs : List V} {i : Nat} {x : V} (r : RepL c P H ds xs fz) (h : xs[i]? = some x) : ∃ d, ds[i]? = some d ∧ Rep c P H d x fz := by
  have hi : i < ds.length := by rw [r.length]; exact (List.getElem?_eq_some_iff.mp h).1
  obtain ⟨y, T, h1, h2, h3⟩ := r.get (List.getElem?_eq_getElem hi)
  rw [h1] at h
  cases h
  have : T = fz := by funext a; have := h3 a; simp only [fz] at this ⊢; omega
  subst this
  exact ⟨_, List.getElem?_eq_getElem hi, h2⟩
theorem iter_lst {c : LC} {P : Hp} {a : Addr} {xs : List V} {ds : List D} {H : Hp} (h : SqL c.K P a xs) (r : RepL c P H ds xs fz) (hp : ∀ H', RepL c P H' ds xs fz) : IterOK c P (Itl c.K a) ds := by
  refine ⟨_, _, by rw [r.length]; exact walk_list (xs := xs), fun P2 H2 e1 e2 => sql_mono e2 (sql_mono e1 h), fun i P2 H2 x H3 e1 e2 hi y => ?_⟩
  obtain ⟨rfl, hx⟩ := y
  obtain ⟨d, h1, h2⟩ := rep_get0 (hp H3) hx
  exact ⟨P2, d, .refl e2, h1, Rep.mono e1 d x fz (fun a o z _ => by simp [fz] at z) h2⟩
theorem iter_tup {c : LC} {P : Hp} {a : Addr} {xs : List V} {ds : List D} {H : Hp} (h : SqT c.K P a xs) (r : RepL c P H ds xs fz) (hp : ∀ H', RepL c P H' ds xs fz) : IterOK c P (Itt c.K a) ds := by
  refine ⟨_, _, by rw [r.length]; exact walk_tup (xs := xs), fun P2 H2 e1 e2 => sqt_mono e2 (sqt_mono e1 h), fun i P2 H2 x H3 e1 e2 hi y => ?_⟩
  obtain ⟨rfl, hx⟩ := y
  obtain ⟨d, h1, h2⟩ := rep_get0 (hp H3) hx
  exact ⟨P2, d, .refl e2, h1, Rep.mono e1 d x fz (fun a o z _ => by simp [fz] at z) h2⟩
theorem repL_h {c : LC} {P H H' : Hp} {ds : List D} {xs : List V} (r : RepL c P H ds xs fz) : RepL c P H' ds xs fz := RepL.mono (.refl _) ds xs fz (fun a o z _ => by simp [fz] at z) r
section
variable {X : Cx} {cl : Nat → Addr} {E : En} {e a b tg : Expr} {pos : Pos} {m ma mb : RM}
theorem i_seq (h : PE X e (tR ⟨X.K, cl⟩ E m)) : PI X tg e (tI ⟨X.K, cl⟩ E (itM m)) := by
  refine PI_imp (PI_or (pi_list h) (PI_or (pi_tup h) (pi_str h))) fun σ H R ⟨P, S, T, ρ, ds, w, hm, q⟩ => ?_
  unfold itM at hm
  cases ea : m ρ with
  | none => rw [ea] at hm; cases hm
  | some d =>
    rw [ea] at hm
    replace hm : itemsD d = some ds := hm
    unfold itemsD at hm
    split at hm
    · split at hm
      · rename_i hf
        cases hm
        refine .inl ⟨P, S, T, ρ, _, w, ea, fun v H1 P1 U1 g1 r1 => ?_⟩
        obtain ⟨p, xs, e1, hp, rl⟩ := r1
        have z := RepL.frz0 _ xs _ hf rl
        subst z
        exact ⟨p, e1, ⟨xs, .inl (.inl (g1.ph _ _ hp))⟩, q _ H1 P1 g1 (iter_lst (.inl (.inl hp)) rl fun _ => repL_h rl)⟩
      · cases hm
    · split at hm
      · rename_i hf
        cases hm
        refine .inr (.inl ⟨P, S, T, ρ, _, w, ea, fun v H1 P1 U1 g1 r1 => ?_⟩)
        obtain ⟨p, xs, e1, hp, rl⟩ := r1
        have z := RepL.frz0 _ xs _ hf rl
        subst z
        exact ⟨p, e1, ⟨xs, sqt_mono g1.ph hp⟩, q _ H1 P1 g1 (iter_tup hp rl fun _ => repL_h rl)⟩
      · cases hm
    · cases hm
      refine .inl ⟨P, S, T, ρ, _, w, ea, fun v H1 P1 U1 g1 r1 => ?_⟩
      obtain ⟨p, e1, hp, _⟩ := r1
      exact ⟨p, e1, ⟨_, sql_mono g1.ph hp⟩, q _ H1 P1 g1 (iter_lst (H := H1) hp (repL_ints _) fun _ => repL_ints _)⟩
    · rename_i s
      cases hm
      refine .inr (.inr ⟨P, S, T, ρ, _, w, ea, fun v H1 P1 U1 g1 r1 => ⟨_, r1.1, q _ H1 P1 g1 ?_⟩⟩)
      refine ⟨_, _, by rw [show (strsD s).length = (⟨s.toArray⟩ : Str).cps.size by simp [strsD]]; exact walk_str, fun _ _ _ _ => True.intro, fun i P2 H2 x H3 e1 e2 hi y => ?_⟩
      obtain ⟨rfl, k, hk, rfl⟩ := y
      refine ⟨P2, .str [k], .refl e2, ?_, ⟨rfl, rfl⟩⟩
      have hk' : s[i]? = some k := by simpa using hk
      simp [strsD, hk']
    · cases hm
/-- the ints from lo on -/
def upD (lo : Int) (n : Nat) : List D := (List.range n).map fun (k : Nat) => D.int (lo + (k : Int))
def rng1M (m : RM) : AM := fun ρ => (m ρ).bind fun d => match d with | .int j => if -(2 ^ 62) ≤ j ∧ j < 2 ^ 62 then some (upD 0 j.toNat) else none | _ => none
def rng2M (ma mb : RM) : AM := fun ρ => (ma ρ).bind fun x => (mb ρ).bind fun y => match x, y with | .int i, .int j => if -(2 ^ 62) ≤ i ∧ i < 2 ^ 62 ∧ -(2 ^ 62) ≤ j ∧ j < 2 ^ 62 then some (upD i (j - i).toNat) else none | _, _ => none
theorem iter_rng {c : LC} {P : Hp} (lo : Int) (n : Nat) : IterOK c P (Itr lo n) (upD lo n) := by
  refine ⟨_, _, by rw [show (upD lo n).length = n by simp [upD]]; exact walk_range, fun _ _ _ _ => True.intro, fun i P2 H2 x H3 e1 e2 hi y => ?_⟩
  obtain ⟨rfl, rfl⟩ := y
  have hi' : i < n := by simpa [upD] using hi
  refine ⟨P2, .int (lo + (i : Int)), .refl e2, ?_, ⟨rfl, rfl⟩⟩
  simp [upD, hi']
theorem i_rng1 {p : Pos} (hg : Gl X "range") (hm : X.mg "range" = none) (ha : PE X a (tR ⟨X.K, cl⟩ E m)) (hs : starEach [a] X.env = [(false, eval a X.env)] := by rfl) : PI X tg (.Call (.Name "range" p) [a] [] pos) (tI ⟨X.K, cl⟩ E (rng1M m)) :=
  PI_imp (pi_range1 hg hm (pa_cons ha pa_nil hs) hs) fun σ H R ⟨P, S, T, ρ, ds, w, h, q⟩ => by
    unfold rng1M at h
    cases ea : m ρ with
    | none => rw [ea] at h; cases h
    | some d =>
      rw [ea] at h
      cases d with
      | int j =>
        simp only [Option.bind_some] at h
        split at h
        · rename_i hb
          cases h
          exact ⟨P, S, T, ρ, _, w, ea, fun v H1 P1 U1 g1 r1 => ⟨j, by rw [r1.1], hb.1, hb.2, q _ H1 P1 g1 (iter_rng 0 _)⟩⟩
        · cases h
      | _ => cases h
theorem i_rng2 {p : Pos} (hg : Gl X "range") (hm : X.mg "range" = none) (ha : PE X a (tR ⟨X.K, cl⟩ E ma)) (hb : PE X b (tR ⟨X.K, cl⟩ E mb)) (hs : starEach [a, b] X.env = [(false, eval a X.env), (false, eval b X.env)] := by rfl) (hs2 : starEach [b] X.env = [(false, eval b X.env)] := by rfl) :
    PI X tg (.Call (.Name "range" p) [a, b] [] pos) (tI ⟨X.K, cl⟩ E (rng2M ma mb)) :=
  PI_imp (pi_range2 hg hm (pa_cons ha (pa_cons hb pa_nil hs2) (by rw [hs, hs2])) hs hs2) fun σ H R ⟨P, S, T, ρ, ds, w, h, q⟩ => by
    unfold rng2M at h
    cases ea : ma ρ with
    | none => rw [ea] at h; cases h
    | some d =>
      cases eb : mb ρ with
      | none => rw [ea, eb] at h; cases h
      | some d2 =>
        rw [ea, eb] at h
        cases d with
        | int i =>
          cases d2 with
          | int j =>
            simp only [Option.bind_some] at h
            split at h
            · rename_i hb
              cases h
              exact ⟨P, S, T, ρ, _, w, ea, fun v H1 P1 U1 g1 r1 => ⟨P1, S, T, ρ, _, w.grow g1, eb, fun v2 H2 P2 U2 g2 r2 => ⟨i, j, by rw [r1.1, r2.1], ⟨hb.1, hb.2.1, hb.2.2.1, hb.2.2.2⟩, q _ H2 P2 (g1.trans g2) (iter_rng i _)⟩⟩⟩
            · cases h
          | _ => cases h
        | _ => cases h

/-! ### targets -/
abbrev TgM := D → List D → Option (List D)
theorem fa_assoc (S T U : FP) : fa (fa S T) U = fa S (fa T U) := by funext a; simp only [fa]; omega
theorem fa_comm (S T : FP) : fa S T = fa T S := by funext a; simp only [fa]; omega
/-- what waits aside is stored | let go -/
theorem Wd.shrink {c : LC} {P H : Hp} {S S' T T' : FP} {σ σ' : St} {ρ ρ' : List D} (w : Wd c E P S T σ H ρ) (he : RepE c P H ρ' σ' S') (hl : ∀ a, S' a + T' a ≤ S a + T a) (ht : ∀ a, T' a ≤ T a) (hk : ∀ (i : Nat) (v : V), E.kp[i]? = some true → E.vs[i]? = some v → σ'[i]? = some (some v)) : Wd c E P S' T' σ' H ρ' :=
  ⟨he, fun a => Nat.le_trans (hl a) (w.le a), fun a h => w.out a (Nat.lt_of_lt_of_le h (hl a)), fun a h => w.th a (Nat.lt_of_lt_of_le h (ht a)), w.ph, w.p0, w.fr, w.np, fun a h => w.ns a (Nat.lt_of_lt_of_le h (hl a)), hk⟩
theorem Wd.drop {c : LC} {P H : Hp} {S T U : FP} {σ : St} {ρ : List D} (w : Wd c E P S (fa T U) σ H ρ) : Wd c E P S T σ H ρ := w.shrink w.env (fun a => by simp only [fa]; omega) (fun a => by simp only [fa]; omega) w.kp
theorem RepE.set {c : LC} {P H : Hp} {d : D} {v : V} {U : FP} (r : Rep c P H d v U) : ∀ {ρ : List D} {σ : St} {S : FP} (i : Nat), RepE c P H ρ σ S → ∃ S', RepE c P H (ρ.set i d) (σ.set i (some v)) S' ∧ ∀ a, S' a ≤ S a + U a
  | [], [], S, i, h => ⟨S, h, fun a => by omega⟩
  | d0 :: ρ, v0 :: σ, S, 0, ⟨T, T2, h1, h2, f⟩ => ⟨fa U T2, ⟨U, T2, r, h2, rfl⟩, fun a => by rw [f]; simp only [fa]; omega⟩
  | d0 :: ρ, v0 :: σ, S, i + 1, ⟨T, T2, h1, h2, f⟩ => by
    obtain ⟨S', k1, k2⟩ := RepE.set r i h2
    exact ⟨fa T S', ⟨T, S', h1, k1, rfl⟩, fun a => by have := k2 a; rw [f]; simp only [fa]; omega⟩
  | [], _ :: _, _, _, h => h.elim
  | _ :: _, [], _, _, h => h.elim
theorem Wd.store {c : LC} {P H : Hp} {S T U : FP} {σ : St} {ρ : List D} {d : D} {v : V} (w : Wd c E P S (fa T U) σ H ρ) (r : Rep c P H d v U) (i : Nat) (hk : E.kp[i]? ≠ some true) : ∃ S', Wd c E P S' T (σ.set i (some v)) H (ρ.set i d) := by
  obtain ⟨S', h1, h2⟩ := RepE.set r i w.env
  refine ⟨S', w.shrink h1 (fun a => by have := h2 a; simp only [fa]; omega) (fun a => by simp only [fa]; omega) fun j u h3 h4 => ?_⟩
  have : j ≠ i := fun z => hk (z ▸ h3)
  rw [List.getElem?_set_ne (Ne.symm this)]
  exact w.kp j u h3 h4
def tPG (c : LC) (E : En) (tl : List Nat) (f : TgM) : TG := fun v σ H Q => ∃ P S T U ρ d ρ', Wd c E P S (fa T U) σ H ρ ∧ Rep c P H d v U ∧ f d ρ = some ρ' ∧
  ∀ σ' S', Wd c E P S' T σ' H ρ' → σ'.length = σ.length → (∀ j, j ∉ tl → σ'[j]? = σ[j]?) → Q σ' H
def tPGs (c : LC) (E : En) (tl : List Nat) (f : List D → List D → Option (List D)) : TGs := fun vs σ H Q => ∃ P S T U ρ ds ρ', Wd c E P S (fa T U) σ H ρ ∧ RepL c P H ds vs U ∧ f ds ρ = some ρ' ∧
  ∀ σ' S', Wd c E P S' T σ' H ρ' → σ'.length = σ.length → (∀ j, j ∉ tl → σ'[j]? = σ[j]?) → Q σ' H
theorem PG_imp {t t' : TG} (h : PG X e t) (k : ∀ v σ H Q, t' v σ H Q → t v σ H Q) : PG X e t' := ⟨fun pins s σ H v u Q I r q => h.run pins s σ H v u Q I r (k v σ H Q q)⟩
theorem PGs_imp {es : List Expr} {t t' : TGs} (h : PGs X es t) (k : ∀ v σ H Q, t' v σ H Q → t v σ H Q) : PGs X es t' := ⟨fun pins s σ H v u Q I r q => h.run pins s σ H v u Q I r (k v σ H Q q)⟩
def nameT (i : Nat) : TgM := fun d ρ => some (ρ.set i d)
def tupT (f : List D → List D → Option (List D)) : TgM := fun d ρ => match d with | .tup ds => f ds ρ | _ => none
def nilT : List D → List D → Option (List D) := fun ds ρ => match ds with | [] => some ρ | _ => none
def consT (f : TgM) (g : List D → List D → Option (List D)) : List D → List D → Option (List D) := fun ds ρ => match ds with | d :: ds => (f d ρ).bind fun ρ => g ds ρ | _ => none
theorem g_name (i : Nat) {x : Str} (hN : X.N.Nodup) (hi : X.N[i]? = some x) (hx : Loc X.env.scope x) (hk : E.kp[i]? ≠ some true) (hf : X.fn x = true ∨ X.env.scope.names.lookup x = some .local := by first | exact .inl rfl | exact .inr rfl | assumption) : PG X (.Name x pos) (tPG ⟨X.K, cl⟩ E [i] (nameT i)) :=
  PG_imp (pg_name hN hi hx hf) fun v σ H Q ⟨P, S, T, U, ρ, d, ρ', w, r, hm, q⟩ => by
    cases hm
    obtain ⟨S', w'⟩ := w.store r i hk
    exact q _ S' w' (by simp) fun j hj => List.getElem?_set_ne (fun z => hj (by simp [z]))
theorem gs_nil : PGs X [] (tPGs ⟨X.K, cl⟩ E [] nilT) := PGs_imp pgs_nil fun v σ H Q ⟨P, S, T, U, ρ, ds, ρ', w, r, hm, q⟩ => by
  cases ds with
  | nil => cases hm; exact ⟨r.1, q σ S (w.drop) rfl fun _ _ => rfl⟩
  | cons _ _ => cases hm
theorem gs_cons {es : List Expr} {tl tl2 : List Nat} {f : TgM} {g : List D → List D → Option (List D)} (h1 : PG X e (tPG ⟨X.K, cl⟩ E tl f)) (h2 : PGs X es (tPGs ⟨X.K, cl⟩ E tl2 g))
    (hs : (assignEach (e :: es) X.env).map (·.2) = assign e X.env :: (assignEach es X.env).map (·.2) := by rfl) : PGs X (e :: es) (tPGs ⟨X.K, cl⟩ E (tl ++ tl2) (consT f g)) := PGs_imp (pgs_cons h1 h2 hs) fun v σ H Q ⟨P, S, T, U, ρ, ds, ρ', w, r, hm, q⟩ => by
  cases ds with
  | nil => cases hm
  | cons d ds =>
    obtain ⟨y, ys, U1, U2, e1, r1, r2, hu⟩ := r
    subst hu
    replace hm : ((f d ρ).bind fun ρ => g ds ρ) = some ρ' := hm
    cases ef : f d ρ with
    | none => rw [ef] at hm; cases hm
    | some ρ1 =>
      rw [ef] at hm
      refine ⟨y, ys, e1, P, S, fa T U2, U1, ρ, d, ρ1, ?_, r1, ef, fun σ1 S1 w1 l1 k1 => ⟨P, S1, T, U2, ρ1, ds, ρ', w1, r2, hm, fun σ2 S2 w2 l2 k2 => q σ2 S2 w2 (l2.trans l1) fun j hj => ?_⟩⟩
      · have : fa (fa T U2) U1 = fa T (fa U1 U2) := by rw [fa_assoc, fa_comm U2 U1]
        rw [this]; exact w
      · simp only [List.mem_append, not_or] at hj
        rw [k2 j hj.2, k1 j hj.1]
theorem g_tup {es : List Expr} {k : Nat} {tl : List Nat} {f : List D → List D → Option (List D)} {n : Nat} (hc : X.calm = true) (h : PGs X es (tPGs ⟨X.K, cl⟩ E tl f))
    (hn : (assignEach es X.env).length = n := by rfl) (hst : (assignEach es X.env).findIdx? (·.1) = none := by rfl) (hlen : ∀ ds ρ ρ', f ds ρ = some ρ' → ds.length = n := by intro ds ρ ρ' h; rcases ds with _ | ⟨_, ds⟩ <;> simp_all) : PG X (.Tuple es k pos) (tPG ⟨X.K, cl⟩ E tl (tupT f)) := PG_imp (pg_tup hc h hn hst) fun v σ H Q ⟨P, S, T, U, ρ, d, ρ', w, r, hm, q⟩ => by
  cases d with
  | tup ds =>
    obtain ⟨a, xs, e1, hp, rl⟩ := r
    exact ⟨a, xs, e1, sqt_mono w.ph hp, by rw [← rl.length]; exact hlen ds ρ ρ' hm, P, S, T, U, ρ, ds, ρ', w, rl, hm, q⟩
  | _ => cases hm
theorem len_nil {ds ρ ρ' : List D} (h : nilT ds ρ = some ρ') : ds.length = 0 := by cases ds <;> first | rfl | cases h
theorem len_cons {f : TgM} {g : List D → List D → Option (List D)} {n : Nat} (hg : ∀ ds ρ ρ', g ds ρ = some ρ' → ds.length = n) (ds ρ ρ' : List D) (h : consT f g ds ρ = some ρ') : ds.length = n + 1 := by
  cases ds with
  | nil => cases h
  | cons d ds =>
    replace h : ((f d ρ).bind fun ρ => g ds ρ) = some ρ' := h
    cases ef : f d ρ with
    | none => rw [ef] at h; cases h
    | some ρ1 => rw [ef] at h; rw [List.length_cons, hg ds ρ1 ρ' h]
end

/-! ### comprehensions -/
def goneAt (ρ : List D) : List Nat → List D
  | [] => ρ
  | v :: vs => (goneAt ρ vs).set v .gone
section
variable {X : Cx} {cl : Nat → Addr} {E : En} {e a b tg : Expr} {pos : Pos} {m ma mb : RM}
theorem RepE.gone {c : LC} {P H : Hp} : ∀ {ρ : List D} {σ : St} {S : FP} (i : Nat), RepE c P H ρ σ S → ∃ S', RepE c P H (ρ.set i .gone) (σ.set i none) S' ∧ ∀ a, S' a ≤ S a
  | [], [], S, i, h => ⟨S, h, fun a => Nat.le_refl _⟩
  | d0 :: ρ, v0 :: σ, S, 0, ⟨T, T2, h1, h2, f⟩ => ⟨fa fz T2, ⟨fz, T2, ⟨rfl, rfl⟩, h2, rfl⟩, fun a => by rw [f]; simp only [fa, fz]; omega⟩
  | d0 :: ρ, v0 :: σ, S, i + 1, ⟨T, T2, h1, h2, f⟩ => by
    obtain ⟨S', k1, k2⟩ := RepE.gone i h2
    exact ⟨fa T S', ⟨T, S', h1, k1, rfl⟩, fun a => by have := k2 a; rw [f]; simp only [fa]; omega⟩
  | [], _ :: _, _, _, h => h.elim
  | _ :: _, [], _, _, h => h.elim
theorem RepE.wipe {c : LC} {P H : Hp} {ρ : List D} {σ : St} {S : FP} (h : RepE c P H ρ σ S) : ∀ vs : List Nat, ∃ S', RepE c P H (goneAt ρ vs) (L2.wipe σ vs) S' ∧ ∀ a, S' a ≤ S a
  | [] => ⟨S, h, fun _ => Nat.le_refl _⟩
  | v :: vs => by
    obtain ⟨S1, h1, h2⟩ := RepE.wipe h vs
    obtain ⟨S2, h3, h4⟩ := RepE.gone v h1
    exact ⟨S2, h3, fun a => Nat.le_trans (h4 a) (h2 a)⟩
theorem wipe_at {σ : St} : ∀ {vs : List Nat} {j : Nat}, j ∉ vs → (L2.wipe σ vs)[j]? = σ[j]?
  | [], j, _ => rfl
  | v :: vs, j, h => by
    simp only [List.mem_cons, not_or] at h
    unfold L2.wipe
    rw [List.getElem?_set_ne (fun z => h.1 z.symm), wipe_at h.2]
theorem wipe_in {σ : St} : ∀ {vs : List Nat} {j : Nat}, j ∈ vs → j < σ.length → (L2.wipe σ vs)[j]? = some none
  | v :: vs, j, h, hl => by
    unfold L2.wipe
    by_cases z : v = j
    · subst z; rw [List.getElem?_set_self (by rw [wipe_length]; exact hl)]
    · rw [List.getElem?_set_ne z]
      exact wipe_in (by simpa [Ne.symm z] using h) hl
theorem wipe_eq {σ σ' : St} {vs : List Nat} (hl : σ'.length = σ.length) (h : ∀ j, j ∉ vs → σ'[j]? = σ[j]?) : L2.wipe σ' vs = L2.wipe σ vs := by
  apply List.ext_getElem?
  intro j
  by_cases hj : j ∈ vs
  · by_cases z : j < σ.length
    · rw [wipe_in hj (by omega), wipe_in hj z]
    · rw [List.getElem?_eq_none (by rw [wipe_length]; omega), List.getElem?_eq_none (by rw [wipe_length]; omega)]
  · rw [wipe_at hj, wipe_at hj, h j hj]
theorem wipe_wipe (σ : St) (vs : List Nat) : L2.wipe (L2.wipe σ vs) vs = L2.wipe σ vs := wipe_eq (wipe_length _ _) fun j hj => wipe_at hj
theorem Wd.wipe {c : LC} {P H : Hp} {S T : FP} {σ : St} {ρ : List D} (w : Wd c E P S T σ H ρ) (vs : List Nat) (hk : ∀ j ∈ vs, E.kp[j]? ≠ some true) : ∃ S', Wd c E P S' T (L2.wipe σ vs) H (goneAt ρ vs) := by
  obtain ⟨S', h1, h2⟩ := RepE.wipe w.env vs
  refine ⟨S', w.shrink h1 (fun a => by have := h2 a; omega) (fun _ => Nat.le_refl _) fun i v h3 h4 => ?_⟩
  rw [wipe_at fun z => hk i z h3]
  exact w.kp i v h3 h4
def compL (f : TgM) (mc : BM) (me : RM) (ρ0 : List D) : List D → Option (List D)
  | [] => some []
  | d :: ds => (f d ρ0).bind fun ρ1 => (mc ρ1).bind fun k => if k = true then (me ρ1).bind fun y => if frz y = true then (compL f mc me ρ0 ds).map fun ys => y :: ys else none else compL f mc me ρ0 ds
def compM (vs : List Nat) (f : TgM) (mc : BM) (me : RM) (ms : AM) : RM := fun ρ => (ms ρ).bind fun ds => if ds.length ≤ LIM then (compL f mc me (goneAt ρ vs) ds).map (.lst true) else none
def yesB : BM := fun _ => some true
theorem compL_len {f : TgM} {mc : BM} {me : RM} {ρ0 : List D} : ∀ {ds ys : List D}, compL f mc me ρ0 ds = some ys → ys.length ≤ ds.length
  | [], ys, h => by cases h; exact Nat.le_refl _
  | d :: ds, ys, h => by
    unfold compL at h
    cases e1 : f d ρ0 with
    | none => rw [e1] at h; cases h
    | some ρ1 =>
      cases e2 : mc ρ1 with
      | none => rw [e1, Option.bind_some, e2] at h; cases h
      | some k =>
        rw [e1, Option.bind_some, e2, Option.bind_some] at h
        split at h
        · cases e3 : me ρ1 with
          | none => rw [e3] at h; cases h
          | some y =>
            rw [e3, Option.bind_some] at h
            split at h
            · cases e4 : compL f mc me ρ0 ds with
              | none => rw [e4] at h; cases h
              | some zs => rw [e4] at h; cases h; have := compL_len e4; simp; omega
            · cases h
        · have := compL_len h; simp; omega
/-- the i-th turn -/
theorem compL_turn {f : TgM} {mc : BM} {me : RM} {ρ0 : List D} : ∀ {ds ys : List D} {i : Nat} {d : D}, compL f mc me ρ0 ds = some ys → ds[i]? = some d → ∃ zs ρ1 k, compL f mc me ρ0 (ds.take i) = some zs ∧ f d ρ0 = some ρ1 ∧ mc ρ1 = some k ∧
    (k = true → ∃ y, me ρ1 = some y ∧ frz y = true ∧ compL f mc me ρ0 (ds.take (i + 1)) = some (zs ++ [y])) ∧ (k = false → compL f mc me ρ0 (ds.take (i + 1)) = some zs)
  | [], ys, i, d, h, e => by simp at e
  | d0 :: ds, ys, i, d, h, e => by
    unfold compL at h
    cases e1 : f d0 ρ0 with
    | none => rw [e1] at h; cases h
    | some ρ1 =>
      cases e2 : mc ρ1 with
      | none => rw [e1, Option.bind_some, e2] at h; cases h
      | some k =>
        rw [e1, Option.bind_some, e2, Option.bind_some] at h
        cases i with
        | zero =>
          simp at e; subst e
          refine ⟨[], ρ1, k, rfl, e1, e2, fun hk => ?_, fun hk => ?_⟩
          · subst hk
            rw [if_pos rfl] at h
            cases e3 : me ρ1 with
            | none => rw [e3] at h; cases h
            | some y =>
              rw [e3, Option.bind_some] at h
              split at h
              · rename_i hf
                exact ⟨y, rfl, hf, by simp [compL, e1, e2, e3, hf]⟩
              · cases h
          · subst hk; simp [compL, e1, e2]
        | succ i =>
          have e' : ds[i]? = some d := by simpa using e
          cases k with
          | true =>
            rw [if_pos rfl] at h
            cases e3 : me ρ1 with
            | none => rw [e3] at h; cases h
            | some y =>
              rw [e3, Option.bind_some] at h
              split at h
              · rename_i hf
                cases e4 : compL f mc me ρ0 ds with
                | none => rw [e4] at h; cases h
                | some ws =>
                  obtain ⟨zs, ρ2, k2, h1, h2, h3, h4, h5⟩ := compL_turn e4 e'
                  refine ⟨y :: zs, ρ2, k2, by simp [compL, e1, e2, e3, hf, h1], h2, h3, fun z => ?_, fun z => ?_⟩
                  · obtain ⟨y2, k3, k4, k5⟩ := h4 z
                    exact ⟨y2, k3, k4, by simp [compL, e1, e2, e3, hf, k5]⟩
                  · simp [compL, e1, e2, e3, hf, h5 z]
              · cases h
          | false =>
            rw [if_neg (by decide)] at h
            obtain ⟨zs, ρ2, k2, h1, h2, h3, h4, h5⟩ := compL_turn h e'
            refine ⟨zs, ρ2, k2, by simp [compL, e1, e2, h1], h2, h3, fun z => ?_, fun z => ?_⟩
            · obtain ⟨y2, k3, k4, k5⟩ := h4 z
              exact ⟨y2, k3, k4, by simp [compL, e1, e2, k5]⟩
            · simp [compL, e1, e2, h5 z]
def tTs (c : LC) (E : En) (mc : BM) : TT := tT c E mc
theorem ts_nil : PTs X [] (tTs ⟨X.K, cl⟩ E yesB) := ⟨fun pins s σ H Q I ⟨P, S, T, ρ, b, w, hm, q⟩ => by
  cases hm
  exact pts_nil.run pins s σ H Q I (q H P (.refl w.ph))⟩
theorem ts_one {c0 : Expr} {mc : BM} (h : PT X c0 (tT ⟨X.K, cl⟩ E mc)) : PTs X [c0] (tTs ⟨X.K, cl⟩ E mc) := pts_one h
theorem lc_run {c : LC} {vs tl : List Nat} {f : TgM} {mc : BM} {me : RM} {ms : AM} (ht : ∀ j ∈ tl, j ∈ vs) (hk : ∀ j ∈ vs, E.kp[j]? ≠ some true) {σ : St} {H : Hp} {Q : VK} (h : tF c E (compM vs f mc me ms) σ H Q) :
    tLc (tI c E ms) (tPG c E tl f) (tTs c E mc) (tR c E me) vs σ H Q := by
  obtain ⟨P, S, T, ρ, d, w, hm, q⟩ := h
  unfold compM at hm
  cases es : ms ρ with
  | none => rw [es] at hm; cases hm
  | some ds =>
    rw [es, Option.bind_some] at hm
    split at hm
    · rename_i hlim
      cases ec : compL f mc me (goneAt ρ vs) ds with
      | none => rw [ec] at hm; cases hm
      | some ys =>
        rw [ec] at hm
        cases hm
        refine ⟨P, S, T, ρ, ds, w, es, fun J H1 P1 g1 io => ?_⟩
        intro Dl hD
        obtain ⟨G, Y, wk, hG, hY⟩ := io
        have hP1 : P1 Dl = none := none_of g1.ph hD
        -- the invariant
        refine lc_it wk (fun i Hh => ∃ P2 zs acc, compL f mc me (goneAt ρ vs) (ds.take i) = some zs ∧ Gr P1 H1 P2 Hh ∧ P2 Dl = none ∧ Hh Dl = some (.lst acc) ∧ RepL c P2 Hh zs acc fz) ?_ ?_ ?_ ?_
        · exact ⟨P1, [], [], rfl, ⟨.refl _, ex_new hD, g1.ph.trans (ex_new hD), fun a z => .inl z⟩, hP1, upd_same, rfl, rfl⟩
        · rintro i Hh hi ⟨P2, zs, acc, h1, g2, _, _, _⟩
          exact hG P2 Hh g2.p g2.ph
        · rintro i x Hh H3 hi ⟨P2, zs, acc, h1, g2, hD2, hDl, rl⟩ y
          obtain ⟨P3, d, g3, hd, rd⟩ := hY i P2 Hh x H3 g2.p g2.ph hi y
          obtain ⟨zs', ρ1, k, t1, t2, t3, t4, t5⟩ := compL_turn ec hd
          rw [h1] at t1
          cases t1
          obtain ⟨S3, w3⟩ := (((w.grow g1).grow g2).grow g3).wipe vs hk
          have w3' : Wd c E P3 S3 (fa T fz) (L2.wipe σ vs) H3 (goneAt ρ vs) := by rw [fa_fz]; exact w3
          have hD3 : P3 Dl = none := by
            cases z : P3 Dl with
            | none => rfl
            | some o =>
              rcases g3.new Dl (by rw [z]; simp) with q' | q'
              · exact absurd hD2 q'
              · rw [hDl] at q'; cases q'
          refine ⟨P3, S3, T, fz, _, d, ρ1, w3', rd, t2, fun σ' S' w4 l4 k4 => ⟨?_, P3, S', T, ρ1, k, w4, t3, fun H4 P4 g4 => ?_⟩⟩
          · rw [wipe_eq (vs := vs) l4 fun j hj => k4 j fun z => hj (ht j z)]
            exact wipe_wipe σ vs
          · have hD4 : P4 Dl = none := by
              cases z : P4 Dl with
              | none => rfl
              | some o =>
                rcases g4.new Dl (by rw [z]; simp) with q' | q'
                · exact absurd hD3 q'
                · rw [g3.h _ _ hDl] at q'; cases q'
            cases k with
            | true =>
              obtain ⟨y', e1, e2, e3⟩ := t4 rfl
              refine iteT ⟨P4, S', T, ρ1, y', w4.grow g4, e1, fun v H5 P5 U5 g5 r5 => ?_⟩
              have hU := Rep.frz0 y' v U5 e2 r5
              subst hU
              have hD5 : P5 Dl = none := by
                cases z : P5 Dl with
                | none => rfl
                | some o =>
                  rcases g5.new Dl (by rw [z]; simp) with q' | q'
                  · exact absurd hD4 q'
                  · rw [g4.h _ _ (g3.h _ _ hDl)] at q'; cases q'
              have gg := ((g2.trans g3).trans g4).trans g5
              have hDl5 : H5 Dl = some (.lst acc) := g5.h _ _ (g4.h _ _ (g3.h _ _ hDl))
              refine ⟨acc, hDl5, ?_, P5, zs ++ [y'], acc ++ [v], e3, ⟨gg.p, fun a o z => ?_, fun a o z => ?_, gg.new⟩, hD5, upd_same, ?_⟩
              · have h2 := compL_len h1
                have h3 := rl.length
                have : zs.length ≤ ds.length := Nat.le_trans h2 (by rw [List.length_take]; omega)
                have : (zs ++ [y']).length ≤ (ds.take (i + 1)).length := compL_len e3
                rw [List.length_append, List.length_take] at this
                have e4 : acc.length < LIM := by
                  simp only [List.length_cons, List.length_nil] at this
                  omega
                exact lim_lt e4
              · by_cases z2 : a = Dl
                · subst z2; rw [hD] at z; cases z
                · rw [upd_ne z2]; exact gg.h a o z
              · by_cases z2 : a = Dl
                · subst z2; rw [hD5] at z; cases z
                · rw [upd_ne z2]; exact g5.ph a o z
              · have r6 := RepL.append (repL_h (H' := upd H5 Dl (.lst (acc ++ [v]))) (((rl.gr g3).gr g4).gr g5)) (show RepL c P5 (upd H5 Dl (.lst (acc ++ [v]))) [y'] [v] fz from ⟨v, [], fz, fz, rfl, Rep.mono (.refl _) y' v fz (fun a o z _ => by simp [fz] at z) r5, ⟨rfl, rfl⟩, (fa_fz fz).symm⟩)
                rwa [fa_fz] at r6
            | false =>
              refine iteF ⟨P4, zs, acc, t5 rfl, (g2.trans g3).trans g4, hD4, g4.h _ _ (g3.h _ _ hDl), (rl.gr g3).gr g4⟩
        · rintro Hh ⟨P2, zs, acc, h1, g2, hD2, hDl, rl⟩
          rw [List.take_length, ec] at h1
          cases h1
          refine q _ Hh P2 (one Dl) (g1.trans g2) ⟨Dl, acc, fz, rfl, hDl, rl, (fa_fz _).symm⟩ one_le fun a z => ?_
          rw [one_pos z]
          refine ⟨?_, hD2⟩
          cases z : H Dl with
          | none => rfl
          | some o => rw [g1.h _ _ z] at hD; cases hD
    · cases hm
theorem f_lc {elt tg iter : Expr} {ifs : List Expr} {scope : Scope} {own : List (Str × Nat)} {tl : List Nat} {f : TgM} {mc : BM} {me : RM} {ms : AM} (hc : X.calm = true) (hN : X.N.Nodup) (hi : PI X tg iter (tI ⟨X.K, cl⟩ E ms)) (ok : BlkOk X.N X.env.scope scope own)
    (hg : ∀ (s : Shared) (H : Hp) (C : Addr) (c : List (Str × Addr)) (fp : List Addr), PG (X.blk s H scope (compEnvC scope c C X.env) fp) tg (tPG ⟨X.K, cl⟩ E tl f)) (ht : ∀ (s : Shared) (H : Hp) (C : Addr) (c : List (Str × Addr)) (fp : List Addr), PTs (X.blk s H scope (compEnvC scope c C X.env) fp) ifs (tTs ⟨X.K, cl⟩ E mc))
    (he : ∀ (s : Shared) (H : Hp) (C : Addr) (c : List (Str × Addr)) (fp : List Addr), PE (X.blk s H scope (compEnvC scope c C X.env) fp) elt (tR ⟨X.K, cl⟩ E me)) (h1 : ∀ j ∈ tl, j ∈ own.map (·.2)) (h2 : ∀ j ∈ own.map (·.2), E.kp[j]? ≠ some true) (hs : ∀ x, foldedSetIterable iter X.env x = pure x := by intro _; rfl) :
    PE X (.ListComp elt [⟨tg, iter, ifs, 0⟩] scope pos) (tF ⟨X.K, cl⟩ E (compM (own.map (·.2)) f mc me ms)) :=
  PE_imp (pe_lc hc hN hi ok hg ht he hs) fun _ _ _ h => lc_run h1 h2 h
end
end LI
namespace LI
open PySem L2

/-! ### statements -/
inductive Fl where
  | nx | rt (d : D) | bk | ct
abbrev SM := List D → Option (Fl × List D)
def SPost (c : LC) (E : En) (P : Hp) (D : Ends) : Fl → List LI.D → Prop
  | .nx, ρ' => ∀ σ' H' P' S', Wd c E P' S' fz σ' H' ρ' → Ex P P' → D.nx σ' H'
  | .rt d, ρ' => ∀ v σ' H' P' S' U, Wd c E P' S' U σ' H' ρ' → Rep c P' H' d v U → D.rt v H'
  | .bk, ρ' => ∀ σ' H' P' S', Wd c E P' S' fz σ' H' ρ' → Ex P P' → D.bk σ' H'
  | .ct, ρ' => ∀ σ' H' P' S', Wd c E P' S' fz σ' H' ρ' → Ex P P' → D.ct σ' H'
def tS (c : LC) (E : En) (m : SM) : TS := fun D σ H => ∃ P S ρ fl ρ', Wd c E P S fz σ H ρ ∧ m ρ = some (fl, ρ') ∧ SPost c E P D fl ρ'
theorem SPost.mono {c : LC} {E : En} {P P2 : Hp} {D : Ends} {fl : Fl} {ρ' : List LI.D} (h : SPost c E P D fl ρ') (e : Ex P P2) : SPost c E P2 D fl ρ' := by
  cases fl with
  | nx => exact fun σ' H' P' S' w x => h σ' H' P' S' w (e.trans x)
  | rt d => exact h
  | bk => exact fun σ' H' P' S' w x => h σ' H' P' S' w (e.trans x)
  | ct => exact fun σ' H' P' S' w x => h σ' H' P' S' w (e.trans x)
section
variable {X : Cx} {cl : Nat → Addr} {E : En} {e a b tg : Expr} {pos : Pos} {m ma mb : SM} {g : GM}
def skipM : SM := fun ρ => some (.nx, ρ)
def seqM (m1 m2 : SM) : SM := fun ρ => (m1 ρ).bind fun r => match r.1 with | .nx => m2 r.2 | _ => some r
theorem s_nil : PSs X [] (tS ⟨X.K, cl⟩ E skipM) := PSs_imp pss_nil fun D σ H ⟨P, S, ρ, fl, ρ', w, hm, q⟩ => by
  cases hm
  exact q σ H P S w (.refl _)
theorem seq_run {c : LC} {D : Ends} {σ : St} {H : Hp} (h : tS c E (seqM ma mb) D σ H) : tSeq (tS c E ma) (tS c E mb) D σ H := by
  obtain ⟨P, S, ρ, fl, ρ', w, hm, q⟩ := h
  unfold seqM at hm
  cases ea : ma ρ with
  | none => rw [ea] at hm; cases hm
  | some r =>
    obtain ⟨f1, ρ1⟩ := r
    rw [ea, Option.bind_some] at hm
    refine ⟨P, S, ρ, f1, ρ1, w, ea, ?_⟩
    cases f1 with
    | nx => exact fun σ' H' P' S' w' x => ⟨P', S', ρ1, fl, ρ', w', hm, q.mono x⟩
    | rt d => cases hm; exact q
    | bk => cases hm; exact q
    | ct => cases hm; exact q
theorem s_cons {st : Stmt} {rest : List Stmt} (h1 : PS X st (tS ⟨X.K, cl⟩ E ma)) (h2 : PSs X rest (tS ⟨X.K, cl⟩ E mb)) : PSs X (st :: rest) (tS ⟨X.K, cl⟩ E (seqM ma mb)) := PSs_imp (pss_cons h1 h2) fun _ _ _ h => seq_run h
theorem s_one {st : Stmt} (h1 : PS X st (tS ⟨X.K, cl⟩ E ma)) : PSs X [st] (tS ⟨X.K, cl⟩ E ma) := pss_one h1
/-- names forgotten -/
theorem RepE.forget {c : LC} {P H : Hp} : ∀ {ρ : List D} {σ : St} {S : FP} (i : Nat), RepE c P H ρ σ S → ∃ S', RepE c P H (ρ.set i .gone) σ S' ∧ ∀ a, S' a ≤ S a
  | [], [], S, i, h => ⟨S, h, fun a => Nat.le_refl _⟩
  | d0 :: ρ, v0 :: σ, S, 0, ⟨T, T2, h1, h2, f⟩ => ⟨fa fz T2, ⟨fz, T2, by cases v0 <;> first | exact ⟨rfl, rfl⟩ | exact rfl, h2, rfl⟩, fun a => by rw [f]; simp only [fa, fz]; omega⟩
  | d0 :: ρ, v0 :: σ, S, i + 1, ⟨T, T2, h1, h2, f⟩ => by
    obtain ⟨S', k1, k2⟩ := RepE.forget i h2
    exact ⟨fa T S', ⟨T, S', h1, k1, rfl⟩, fun a => by have := k2 a; rw [f]; simp only [fa]; omega⟩
  | [], _ :: _, _, _, h => h.elim
  | _ :: _, [], _, _, h => h.elim
theorem Wd.forget {c : LC} {P H : Hp} {S T : FP} {σ : St} {ρ : List D} (w : Wd c E P S T σ H ρ) : ∀ vs : List Nat, ∃ S', Wd c E P S' T σ H (goneAt ρ vs)
  | [] => ⟨S, w⟩
  | v :: vs => by
    obtain ⟨S1, w1⟩ := Wd.forget w vs
    obtain ⟨S2, h1, h2⟩ := RepE.forget v w1.env
    exact ⟨S2, w1.shrink h1 (fun a => by have := h2 a; omega) (fun _ => Nat.le_refl _) w1.kp⟩
def killM (vs : List Nat) (m : SM) : SM := fun ρ => m (goneAt ρ vs)
theorem s_kill (vs : List Nat) {sts : List Stmt} (h : PSs X sts (tS ⟨X.K, cl⟩ E m)) : PSs X sts (tS ⟨X.K, cl⟩ E (killM vs m)) := PSs_imp h fun D σ H ⟨P, S, ρ, fl, ρ', w, hm, q⟩ => by
  obtain ⟨S', w'⟩ := w.forget vs
  exact ⟨P, S', _, fl, ρ', w', hm, q⟩

/-! #### assignment -/
theorem g_run {c : LC} {σ : St} {H : Hp} {Q : VK} {P : Hp} {S : FP} {ρ ρ1 : List D} {d : D} (w : Wd c E P S fz σ H ρ) (hg : g ρ = some (d, ρ1)) (q : ∀ v H' P' S' U, Wd c E P' S' U σ H' ρ1 → Ex P P' → Rep c P' H' d v U → Q v H') : tG c E g σ H Q :=
  ⟨P, S, fz, ρ, d, ρ1, w, hg, fun v H' P' S' U w' e r _ => q v H' P' S' U (by rw [fz_fa] at w'; exact w') e r⟩
def asgM (f : TgM) (g : GM) : SM := fun ρ => (g ρ).bind fun r => (f r.1 r.2).map fun ρ' => (.nx, ρ')
theorem asg_run {c : LC} {tl : List Nat} {f : TgM} {D : Ends} {σ : St} {H : Hp} (h : tS c E (asgM f g) D σ H) : tAsg (tG c E g) (tPG c E tl f) D σ H := by
  obtain ⟨P, S, ρ, fl, ρ', w, hm, q⟩ := h
  unfold asgM at hm
  cases eg : g ρ with
  | none => rw [eg] at hm; cases hm
  | some r =>
    obtain ⟨d, ρ1⟩ := r
    rw [eg, Option.bind_some] at hm
    cases ef : f d ρ1 with
    | none => rw [ef] at hm; cases hm
    | some ρ2 =>
      rw [ef] at hm
      cases hm
      exact g_run w eg fun v H' P' S' U w' e r => ⟨P', S', fz, U, ρ1, d, ρ', by rw [fz_fa]; exact w', r, ef, fun σ2 S2 w2 _ _ => q σ2 H' P' S2 w2 e⟩
theorem s_asg {tl : List Nat} {f : TgM} (he : PE X e (tG ⟨X.K, cl⟩ E g)) (hg : PG X tg (tPG ⟨X.K, cl⟩ E tl f)) (hs : swapsWithSole [tg] e pos.line X.env = pure false := by rfl) (hw : swappedStores [tg] e X.env = pure none := by rfl)
    (h1 : (assignEach [tg] X.env).map (·.2) = [assign tg X.env] := by rfl) : PS X (.Assign [tg] e pos) (tS ⟨X.K, cl⟩ E (asgM f g)) := PS_imp (ps_asg he hg hs hw h1) fun _ _ _ h => asg_run h
theorem s_set (i : Nat) {x : Str} {pos' : Pos} (hN : X.N.Nodup) (hi : X.N[i]? = some x) (hx : Loc X.env.scope x) (hk : E.kp[i]? ≠ some true) (he : PE X e (tG ⟨X.K, cl⟩ E g)) (hs : swapsWith e (some (.Name x pos')) pos.line X.env = pure false := by rfl) (hf : X.fn x = true ∨ X.env.scope.names.lookup x = some .local := by first | exact .inl rfl | exact .inr rfl | assumption) :
    PS X (.Assign [.Name x pos'] e pos) (tS ⟨X.K, cl⟩ E (asgM (nameT i) g)) := PS_imp (ps_set hN hi hx he hs hf) fun D σ H ⟨P, S, ρ, fl, ρ', w, hm, q⟩ => by
  unfold asgM at hm
  cases eg : g ρ with
  | none => rw [eg] at hm; cases hm
  | some r =>
    obtain ⟨d, ρ1⟩ := r
    rw [eg] at hm
    cases hm
    exact g_run w eg fun v H' P' S' U w' e r => by
      obtain ⟨S2, w2⟩ := (show Wd ⟨X.K, cl⟩ E P' S' (fa fz U) σ H' ρ1 by rw [fz_fa]; exact w').store r i hk
      exact q _ H' P' S2 w2 e
theorem s_setLc (i : Nat) {y : Str} {py : Pos} {elt tg iter : Expr} {ifs : List Expr} {scope : Scope} {own : List (Str × Nat)} {spos : Pos} {tl : List Nat} {f : TgM} {mc : BM} {me : RM} {ms : AM} (hc : X.calm = true) (hN : X.N.Nodup) (hy : X.N[i]? = some y) (hyl : X.env.scope.names.lookup y = some .local) (hki : E.kp[i]? ≠ some true)
    (hi : PI X tg iter (tI ⟨X.K, cl⟩ E ms)) (ok : BlkOk X.N X.env.scope scope own)
    (hg : ∀ (s : Shared) (H : Hp) (C : Addr) (c : List (Str × Addr)) (fp : List Addr), PG (X.blk s H scope (compEnvC scope c C X.env) fp) tg (tPG ⟨X.K, cl⟩ E tl f)) (ht : ∀ (s : Shared) (H : Hp) (C : Addr) (c : List (Str × Addr)) (fp : List Addr), PTs (X.blk s H scope (compEnvC scope c C X.env) fp) ifs (tTs ⟨X.K, cl⟩ E mc))
    (he : ∀ (s : Shared) (H : Hp) (C : Addr) (c : List (Str × Addr)) (fp : List Addr), PE (X.blk s H scope (compEnvC scope c C X.env) fp) elt (tR ⟨X.K, cl⟩ E me)) (h1 : ∀ j ∈ tl, j ∈ own.map (·.2)) (h2 : ∀ j ∈ own.map (·.2), E.kp[j]? ≠ some true)
    (hsw : swapsWith (.ListComp elt [⟨tg, iter, ifs, 0⟩] scope pos) (some (.Name y py)) spos.line X.env = pure true) (hs : ∀ x, foldedSetIterable iter X.env x = pure x := by intro _; rfl) :
    PS X (.Assign [.Name y py] (.ListComp elt [⟨tg, iter, ifs, 0⟩] scope pos) spos) (tS ⟨X.K, cl⟩ E (asgM (nameT i) (upF (compM (own.map (·.2)) f mc me ms)))) :=
  PS_imp (ps_setLc hc hN hy hyl hsw hi ok hg ht he hs) fun D σ H ⟨P, S, ρ, fl, ρ', w, hm, q⟩ => by
    unfold asgM upF at hm
    cases eg : compM (own.map (·.2)) f mc me ms ρ with
    | none => rw [eg] at hm; cases hm
    | some d =>
      rw [eg] at hm
      cases hm
      refine lc_run (c := ⟨X.K, cl⟩) h1 h2 ⟨P, S, fz, ρ, d, w, eg, fun v H' P' U g r u1 u2 => ?_⟩
      obtain ⟨S2, w2⟩ := (w.aside g u1 u2 (Rep.there d v U r)).store r i hki
      exact q _ H' P' S2 w2 g.p

/-! #### the other plain ones -/
def exprM (g : GM) : SM := fun ρ => (g ρ).map fun r => (.nx, r.2)
theorem s_expr (he : PE X e (tG ⟨X.K, cl⟩ E g)) (hs : swapsWith e none pos.line X.env = pure false := by rfl) : PS X (.Expr e pos) (tS ⟨X.K, cl⟩ E (exprM g)) := PS_imp (ps_expr he hs) fun D σ H ⟨P, S, ρ, fl, ρ', w, hm, q⟩ => by
  unfold exprM at hm
  cases eg : g ρ with
  | none => rw [eg] at hm; cases hm
  | some r =>
    rw [eg] at hm
    cases hm
    exact g_run w eg fun v H' P' S' U w' e r => q σ H' P' S' (Wd.drop (U := U) (by rw [fz_fa]; exact w')) e
def retM (g : GM) : SM := fun ρ => (g ρ).map fun r => (.rt r.1, r.2)
theorem s_ret (he : PE X e (tG ⟨X.K, cl⟩ E g)) : PS X (.Return (some e) pos) (tS ⟨X.K, cl⟩ E (retM g)) := PS_imp (ps_ret he) fun D σ H ⟨P, S, ρ, fl, ρ', w, hm, q⟩ => by
  unfold retM at hm
  cases eg : g ρ with
  | none => rw [eg] at hm; cases hm
  | some r =>
    rw [eg] at hm
    cases hm
    exact g_run w eg fun v H' P' S' U w' e r => q v σ H' P' S' U w' r
def retNM : SM := fun ρ => some (.rt .non, ρ)
theorem s_retN : PS X (.Return none pos) (tS ⟨X.K, cl⟩ E retNM) := PS_imp ps_retN fun D σ H ⟨P, S, ρ, fl, ρ', w, hm, q⟩ => by
  cases hm
  exact q _ σ H P S fz w ⟨rfl, rfl⟩
def bkM : SM := fun ρ => some (.bk, ρ)
def ctM : SM := fun ρ => some (.ct, ρ)
theorem s_pass : PS X (.Pass pos) (tS ⟨X.K, cl⟩ E skipM) := PS_imp ps_pass fun D σ H ⟨P, S, ρ, fl, ρ', w, hm, q⟩ => by
  cases hm; exact q σ H P S w (.refl _)
theorem s_bk : PS X (.Break pos) (tS ⟨X.K, cl⟩ E bkM) := PS_imp ps_break fun D σ H ⟨P, S, ρ, fl, ρ', w, hm, q⟩ => by
  cases hm; exact q σ H P S w (.refl _)
theorem s_ct : PS X (.Continue pos) (tS ⟨X.K, cl⟩ E ctM) := PS_imp ps_continue fun D σ H ⟨P, S, ρ, fl, ρ', w, hm, q⟩ => by
  cases hm; exact q σ H P S w (.refl _)
/-- never come to -/
def noM' : SM := fun _ => none
theorem s_never {st : Stmt} : PS X st (tS ⟨X.K, cl⟩ E noM') := PS_imp ps_never fun D σ H ⟨P, S, ρ, fl, ρ', w, hm, q⟩ => by cases hm
def upB (m : BM) : BGM := fun ρ => (m ρ).map fun k => (k, ρ)
theorem tg_t {m : BM} (h : PT X e (tT ⟨X.K, cl⟩ E m)) : PT X e (tTG ⟨X.K, cl⟩ E (upB m)) := PT_imp h fun σ H Q ⟨P, S, T, ρ, b, ρ', w, hm, q⟩ => by
  unfold upB at hm
  cases ea : m ρ with
  | none => rw [ea] at hm; cases hm
  | some k =>
    rw [ea] at hm
    cases hm
    exact ⟨P, S, T, ρ, b, w, ea, fun H' P' g => q H' P' S (w.grow g) g.p fun a o _ h => g.h a o h⟩
def ifGM (mc : BGM) (ma mb : SM) : SM := fun ρ => (mc ρ).bind fun r => if r.1 = true then ma r.2 else mb r.2
theorem s_ifG {mc : BGM} {sa sb : List Stmt} (hc : PT X e (tTG ⟨X.K, cl⟩ E mc)) (ha : PSs X sa (tS ⟨X.K, cl⟩ E ma)) (hb : PSs X sb (tS ⟨X.K, cl⟩ E mb)) : PS X (.If e sa sb pos) (tS ⟨X.K, cl⟩ E (ifGM mc ma mb)) := PS_imp (ps_if hc ha hb) fun D σ H ⟨P, S, ρ, fl, ρ', w, hm, q⟩ => by
  unfold ifGM at hm
  cases ec : mc ρ with
  | none => rw [ec] at hm; cases hm
  | some r =>
    obtain ⟨k, ρ1⟩ := r
    rw [ec, Option.bind_some] at hm
    refine ⟨P, S, fz, ρ, k, ρ1, w, ec, fun H' P' S' w' x _ => ?_⟩
    cases k with
    | true => exact iteT ⟨P', S', ρ1, fl, ρ', w', hm, q.mono x⟩
    | false => exact iteF ⟨P', S', ρ1, fl, ρ', w', hm, q.mono x⟩
def ifM (mc : BM) (ma mb : SM) : SM := fun ρ => (mc ρ).bind fun k => if k = true then ma ρ else mb ρ
theorem s_if {mc : BM} {sa sb : List Stmt} (hc : PT X e (tT ⟨X.K, cl⟩ E mc)) (ha : PSs X sa (tS ⟨X.K, cl⟩ E ma)) (hb : PSs X sb (tS ⟨X.K, cl⟩ E mb)) : PS X (.If e sa sb pos) (tS ⟨X.K, cl⟩ E (ifM mc ma mb)) := PS_imp (ps_if hc ha hb) fun D σ H ⟨P, S, ρ, fl, ρ', w, hm, q⟩ => by
  unfold ifM at hm
  cases ec : mc ρ with
  | none => rw [ec] at hm; cases hm
  | some k =>
    rw [ec, Option.bind_some] at hm
    refine ⟨P, S, fz, ρ, k, w, ec, fun H' P' g => ?_⟩
    cases k with
    | true => exact iteT ⟨P', S, ρ, fl, ρ', w.grow g, hm, q.mono g.p⟩
    | false => exact iteF ⟨P', S, ρ, fl, ρ', w.grow g, hm, q.mono g.p⟩

/-! #### loops -/
def forL (f : TgM) (body : SM) (kl : List Nat) : List D → List D → Option (Fl × List D)
  | [], ρ => some (.nx, ρ)
  | d :: ds, ρ => (f d ρ).bind fun ρ1 => (body ρ1).bind fun r => match r.1 with
    | .nx => forL f body kl ds (goneAt r.2 kl)
    | .ct => forL f body kl ds (goneAt r.2 kl)
    | .bk => some (.nx, goneAt r.2 kl)
    | .rt d => some (.rt d, r.2)
def forM (f : TgM) (body : SM) (kl : List Nat) (ms : AM) : SM := fun ρ => (ms ρ).bind fun ds => forL f body kl ds ρ
theorem for_run {c : LC} {tl kl : List Nat} {f : TgM} {body : SM} {ms : AM} {D : Ends} {σ : St} {H : Hp} (h : tS c E (forM f body kl ms) D σ H) : tFor (tI c E ms) (tPG c E tl f) (tS c E body) D σ H := by
  obtain ⟨P, S, ρ, fl, ρ', w, hm, q⟩ := h
  unfold forM at hm
  cases es : ms ρ with
  | none => rw [es] at hm; cases hm
  | some ds =>
    rw [es, Option.bind_some] at hm
    refine ⟨P, S, fz, ρ, ds, w, es, fun J H1 P1 g1 io => ?_⟩
    obtain ⟨G, Y, wk, hG, hY⟩ := io
    refine for_it wk (fun i σi Hi => ∃ P2 S2 ρi, Wd c E P2 S2 fz σi Hi ρi ∧ Ex P1 P2 ∧ forL f body kl (ds.drop i) ρi = some (fl, ρ')) ?_ ?_ ?_ ?_
    · exact ⟨P1, S, ρ, w.grow g1, .refl _, hm⟩
    · rintro i σi Hi hi ⟨P2, S2, ρi, w2, e2, _⟩
      exact hG P2 Hi e2 w2.ph
    · rintro i x σi Hi H3 hi ⟨P2, S2, ρi, w2, e2, hf⟩ y
      obtain ⟨P3, d, g3, hd, rd⟩ := hY i P2 Hi x H3 e2 w2.ph hi y
      have hdrop : ds.drop i = d :: ds.drop (i + 1) := by
        rw [List.drop_eq_getElem_cons hi]
        congr 1
        rw [List.getElem?_eq_getElem hi] at hd
        exact Option.some.inj hd
      rw [hdrop] at hf
      unfold forL at hf
      cases ef : f d ρi with
      | none => rw [ef] at hf; cases hf
      | some ρ1 =>
        cases eb : body ρ1 with
        | none => rw [ef, Option.bind_some, eb] at hf; cases hf
        | some r =>
          obtain ⟨f1, ρ2⟩ := r
          rw [ef, Option.bind_some, eb, Option.bind_some] at hf
          have w3 : Wd c E P3 S2 (fa fz fz) σi H3 ρi := by rw [fa_fz]; exact w2.grow g3
          refine ⟨P3, S2, fz, fz, ρi, d, ρ1, w3, rd, ef, fun σ4 S4 w4 _ _ => ⟨P3, S4, ρ1, f1, ρ2, w4, eb, ?_⟩⟩
          cases f1 with
          | nx =>
            intro σ' H' P' S' w' x'
            obtain ⟨S5, w5⟩ := w'.forget kl
            exact ⟨P', S5, _, w5, (e2.trans g3.p).trans x', hf⟩
          | ct =>
            intro σ' H' P' S' w' x'
            obtain ⟨S5, w5⟩ := w'.forget kl
            exact ⟨P', S5, _, w5, (e2.trans g3.p).trans x', hf⟩
          | bk =>
            cases hf
            intro σ' H' P' S' w' x'
            obtain ⟨S5, w5⟩ := w'.forget kl
            exact q σ' H' P' S5 w5 (((g1.p.trans e2).trans g3.p).trans x')
          | rt d' =>
            cases hf
            exact q
    · rintro σi Hi ⟨P2, S2, ρi, w2, e2, hf⟩
      rw [List.drop_length] at hf
      cases hf
      exact q σi Hi P2 S2 w2 (g1.p.trans e2)
theorem s_for {iter : Expr} {sb : List Stmt} {tl : List Nat} (kl : List Nat) {f : TgM} {body : SM} {ms : AM} (hp : PassesOwn (model X.prog X.w) X.A X.env X.xe) (hc : X.calm = true) (hi : PI X tg iter (tI ⟨X.K, cl⟩ E ms)) (hg : PG X tg (tPG ⟨X.K, cl⟩ E tl f)) (hb : PSs X sb (tS ⟨X.K, cl⟩ E body))
    (hs : ∀ x, foldedSetIterable iter X.env x = pure x := by intro _; rfl) : PS X (.For tg iter sb [] pos) (tS ⟨X.K, cl⟩ E (forM f body kl ms)) := PS_imp (ps_for hp hc hi hg hb hs) fun _ _ _ h => for_run h
def whileL (mc : BM) (body : SM) (kl : List Nat) : Nat → List D → Option (Fl × List D)
  | 0, _ => none
  | n + 1, ρ => (mc ρ).bind fun k => if k = true then (body ρ).bind fun r => match r.1 with
    | .nx => whileL mc body kl n (goneAt r.2 kl)
    | .ct => whileL mc body kl n (goneAt r.2 kl)
    | .bk => some (.nx, goneAt r.2 kl)
    | .rt d => some (.rt d, r.2)
    else some (.nx, ρ)
def whileM (n : Nat) (mc : BM) (body : SM) (kl : List Nat) : SM := fun ρ => whileL mc body kl n ρ
theorem while_run {c : LC} {n : Nat} {kl : List Nat} {mc : BM} {body : SM} {D : Ends} {σ : St} {H : Hp} (h : tS c E (whileM n mc body kl) D σ H) : tWhile (tT c E mc) (tS c E body) D σ H := by
  obtain ⟨P, S, ρ, fl, ρ', w, hm, q⟩ := h
  unfold whileM at hm
  refine ⟨fun i σi Hi => ∃ P2 S2 ρi, Wd c E P2 S2 fz σi Hi ρi ∧ Ex P P2 ∧ whileL mc body kl i ρi = some (fl, ρ'), ⟨n, P, S, ρ, w, .refl _, hm⟩, ?_⟩
  rintro i σi Hi ⟨P2, S2, ρi, w2, e2, hf⟩
  cases i with
  | zero => cases hf
  | succ i =>
    unfold whileL at hf
    cases ec : mc ρi with
    | none => rw [ec] at hf; cases hf
    | some k =>
      rw [ec, Option.bind_some] at hf
      refine ⟨P2, S2, fz, ρi, k, w2, ec, fun H3 P3 g3 => ?_⟩
      cases k with
      | false =>
        rw [if_neg (by decide)] at hf
        cases hf
        exact iteF (q σi H3 P3 S2 (w2.grow g3) (e2.trans g3.p))
      | true =>
        rw [if_pos rfl] at hf
        refine iteT ⟨fun σ' H' => ∃ P2 S2 ρi, Wd c E P2 S2 fz σ' H' ρi ∧ Ex P P2 ∧ whileL mc body kl i ρi = some (fl, ρ'), fun σ' H' hN => ⟨i, Nat.lt_succ_self _, hN⟩, ?_⟩
        cases eb : body ρi with
        | none => rw [eb] at hf; cases hf
        | some r =>
          obtain ⟨f1, ρ2⟩ := r
          rw [eb, Option.bind_some] at hf
          refine ⟨P3, S2, ρi, f1, ρ2, w2.grow g3, eb, ?_⟩
          cases f1 with
          | nx =>
            intro σ' H' P' S' w' x'
            obtain ⟨S5, w5⟩ := w'.forget kl
            exact ⟨P', S5, _, w5, (e2.trans g3.p).trans x', hf⟩
          | ct =>
            intro σ' H' P' S' w' x'
            obtain ⟨S5, w5⟩ := w'.forget kl
            exact ⟨P', S5, _, w5, (e2.trans g3.p).trans x', hf⟩
          | bk =>
            cases hf
            intro σ' H' P' S' w' x'
            obtain ⟨S5, w5⟩ := w'.forget kl
            exact q σ' H' P' S5 w5 ((e2.trans g3.p).trans x')
          | rt d' =>
            cases hf
            exact q
theorem s_while (n : Nat) (kl : List Nat) {sb : List Stmt} {mc : BM} {body : SM} (hp : PassesOwn (model X.prog X.w) X.A X.env X.xe) (hc : PT X e (tT ⟨X.K, cl⟩ E mc)) (hb : PSs X sb (tS ⟨X.K, cl⟩ E body)) : PS X (.While e sb [] pos) (tS ⟨X.K, cl⟩ E (whileM n mc body kl)) := PS_imp (ps_while hp hc hb) fun _ _ _ h => while_run h
end
end LI
namespace LI
open PySem L2 PyProof.Rows

/-! ### a def's promise -/
/-- from the entry to the end -/
structure Stp (P0 : Hp) (S0 : FP) (H0 P : Hp) (T : FP) (H : Hp) : Prop where
  p0 : Ex P0 P
  ph : Ex P H
  fr : ∀ a o, S0 a = 0 → H0 a = some o → H a = some o
  np : ∀ a, P a ≠ none → P0 a ≠ none ∨ 0 < S0 a ∨ H0 a = none
  ns : ∀ a, 0 < T a → 0 < S0 a ∨ H0 a = none
  le : ∀ a, T a ≤ 1
  out : ∀ a, 0 < T a → P a = none
abbrev FM := List D → Option (D × List D)
def spD (c : LC) (F : FM) : Sp := fun vs H Q _ => ∃ P S ds d ds', RepL c P H ds vs S ∧ Ex P H ∧ (∀ a, S a ≤ 1) ∧ (∀ a, 0 < S a → P a = none) ∧ F ds = some (d, ds') ∧
  ∀ v H' P' U S', Stp P S H P' (fa U S') H' → Rep c P' H' d v U → RepL c P' H' ds' vs S' → Q v H'
def maskL : List Bool → List D → List D
  | [], _ => []
  | _ :: bs, [] => .gone :: maskL bs []
  | b :: bs, d :: ds => (if b = true then d else .gone) :: maskL bs ds
def runM (n : Nat) (kp : List Bool) (m : SM) : FM := fun ds => if ds.length = kp.length then (m (ds ++ List.replicate (n - ds.length) .gone)).bind fun r => match r.1 with
  | .rt d => some (d, maskL kp r.2)
  | .nx => some (.non, maskL kp r.2)
  | _ => none
  else none
theorem repE_none {c : LC} {P H : Hp} : ∀ n : Nat, RepE c P H (List.replicate n .gone) (List.replicate n none) fz
  | 0 => rfl
  | n + 1 => ⟨fz, fz, ⟨rfl, rfl⟩, repE_none n, (fa_fz fz).symm⟩
theorem repE_start {c : LC} {P H : Hp} (n : Nat) : ∀ {ds : List D} {vs : List V} {S : FP}, RepL c P H ds vs S → RepE c P H (ds ++ List.replicate n .gone) (vs.map some ++ List.replicate n none) S
  | [], vs, S, r => by rw [r.1, r.2]; exact repE_none n
  | d :: ds, vs, S, ⟨y, ys, T, U, e, r, rs, f⟩ => by rw [e]; exact ⟨T, U, r, repE_start n rs, f⟩
theorem mask_rep {c : LC} {P H : Hp} : ∀ {kp : List Bool} {vs : List V} {ρ : List D} {σ : L2.St} {S : FP}, RepE c P H ρ σ S → kp.length = vs.length → (∀ (i : Nat) (v : V), kp[i]? = some true → vs[i]? = some v → σ[i]? = some (some v)) →
    ∃ S', RepL c P H (maskL kp ρ) vs S' ∧ ∀ a, S' a ≤ S a
  | [], vs, ρ, σ, S, r, h1, h3 => by
    have : vs = [] := List.length_eq_zero_iff.mp h1.symm
    subst this
    exact ⟨fz, ⟨rfl, rfl⟩, fun a => Nat.zero_le _⟩
  | b :: kp, [], ρ, σ, S, r, h1, h3 => by simp at h1
  | b :: kp, v :: vs, [], [], S, r, h1, h3 => by
    obtain ⟨S', k1, k2⟩ := mask_rep (kp := kp) (vs := vs) (ρ := []) (σ := []) r (by simpa using h1) fun i u z1 z2 => by
      have := h3 (i + 1) u (by simpa using z1) (by simpa using z2)
      simpa using this
    exact ⟨fa fz S', ⟨v, vs, fz, S', rfl, rfl, k1, rfl⟩, fun a => by have := k2 a; simp only [fa, fz]; omega⟩
  | b :: kp, v :: vs, [], _ :: _, S, r, h1, h3 => r.elim
  | b :: kp, v :: vs, d :: ρ, [], S, r, h1, h3 => r.elim
  | b :: kp, v :: vs, d :: ρ, ov :: σ, S, ⟨T, U, r, rs, f⟩, h1, h3 => by
    obtain ⟨S', k1, k2⟩ := mask_rep (kp := kp) (vs := vs) rs (by simpa using h1) fun i u z1 z2 => by
      have := h3 (i + 1) u (by simpa using z1) (by simpa using z2)
      simpa using this
    cases b with
    | false => exact ⟨fa fz S', ⟨v, vs, fz, S', rfl, rfl, k1, rfl⟩, fun a => by have := k2 a; rw [f]; simp only [fa, fz]; omega⟩
    | true =>
      have e := h3 0 v rfl rfl
      simp at e
      subst e
      exact ⟨fa T S', ⟨v, vs, T, S', rfl, r, k1, rfl⟩, fun a => by have := k2 a; rw [f]; simp only [fa]; omega⟩
section
variable {P : Program} {w : World} {K : PySem.W.Frag} {mg : Str → Option Value} {base : Heap} {cl : Nat → Addr}
/-- THE RULE for a def -/
theorem ok_def {x qual : Str} {st : Stmt} {f : Addr} {fd : FuncData} {N ps : List Str} {k : Nat} {kp : List Bool} {m : SM} (F : Fun K x qual st f fd) (S : FnScope N ps (defScope st)) (hk : kp.length = ps.length)
    (hbody : ∀ (cdv : Value) (A : Around) (outer : List Env) (s : Shared) (H : Hp) (E : XK) (e : En), e.kp = kp → Room k (A.deeper (envOfC qual (defScope st) s.heap.objs.size f cdv)) →
      PSs (cxOf CX0 P w K mg base N qual (defScope st) f cdv A outer s H E).nox (defBody st) (tS ⟨K, cl⟩ e m)) : FnOk P w K mg base CX0 (k + 1) f fd ps (spD ⟨K, cl⟩ (runM N.length kp m)) := by
  refine F.ok S (fun vs H Q E h => ?_) (fun cdv A outer s H vs Q E hr h => ?_)
  · obtain ⟨Pp, Sp, ds, d, ds', r, _, _, _, hm, _⟩ := h
    unfold runM at hm
    split at hm
    · rename_i hl
      rw [← r.length, hl, hk]
    · cases hm
  · obtain ⟨Pp, Sp, ds, d, ds', r, e1, e2, e3, hm, q⟩ := h
    unfold runM at hm
    split at hm
    · rename_i hl
      have hlv : vs.length = kp.length := by rw [← r.length, hl]
      have hvs : ∀ i : Nat, kp[i]? = some true → ∃ v, vs[i]? = some v := fun i hi => by
        have hi' : i < kp.length := (List.getElem?_eq_some_iff.mp hi).1
        exact ⟨_, List.getElem?_eq_getElem (by omega)⟩
      refine ⟨_, hbody cdv A outer s H E ⟨Pp, H, Sp, kp, vs, hvs⟩ rfl hr, ?_⟩
      cases em : m (ds ++ List.replicate (N.length - ds.length) .gone) with
      | none => rw [em] at hm; cases hm
      | some rr =>
        obtain ⟨fl, ρ'⟩ := rr
        rw [em, Option.bind_some] at hm
        have w0 : Wd ⟨K, cl⟩ ⟨Pp, H, Sp, kp, vs, hvs⟩ Pp Sp fz (L2.start N vs) H (ds ++ List.replicate (N.length - ds.length) .gone) := by
          refine ⟨?_, fun a => by have := e2 a; simp only [fz]; omega, fun a h => e3 a (by simpa [fz] using h), fun a h => by simp [fz] at h, e1, .refl _, fun _ _ _ h => h, fun a h => .inl h, fun a h => .inl (by simpa [fz] using h), fun i v h1 h2 => ?_⟩
          · unfold L2.start
            rw [r.length]
            exact repE_start _ r
          · unfold L2.start
            have h2 : vs[i]? = some v := h2
            rw [List.getElem?_append_left (by rw [List.length_map]; exact (List.getElem?_eq_some_iff.mp h2).1), List.getElem?_map, h2]
            rfl
        have fin : ∀ (v : V) (σ' : L2.St) (H' P' : Hp) (S' U : FP) (d1 : D), Wd ⟨K, cl⟩ ⟨Pp, H, Sp, kp, vs, hvs⟩ P' S' U σ' H' ρ' → Rep ⟨K, cl⟩ P' H' d1 v U → some (d1, maskL kp ρ') = some (d, ds') → Q v H' := by
          intro v σ' H' P' S' U d1 w' rd hs
          cases hs
          obtain ⟨S2, k1, k2⟩ := mask_rep (kp := kp) (vs := vs) w'.env hlv.symm w'.kp
          exact q v H' P' U S2 ⟨w'.p0, w'.ph, w'.fr, w'.np, fun a h => w'.ns a (by have := k2 a; simp only [fa] at h; omega), fun a => by have := k2 a; have := w'.le a; simp only [fa]; omega, fun a h => w'.out a (by have := k2 a; simp only [fa] at h; omega)⟩ rd k1
        refine ⟨Pp, Sp, _, fl, ρ', w0, em, ?_⟩
        cases fl with
        | nx => exact fun σ' H' P' S' w' _ => fin .non σ' H' P' S' fz .non w' ⟨rfl, rfl⟩ hm
        | rt d1 => exact fun v σ' H' P' S' U w' r => fin v σ' H' P' S' U d1 w' r hm
        | bk => cases hm
        | ct => cases hm
    · cases hm
end
end LI
namespace LI
open PySem L2

/-! ### calls that leave their arguments alone -/
def isFlat : D → Bool
  | .non => true | .bl _ => true | .int _ => true | .str _ => true | _ => false
theorem flat_any {c : LC} {P H P' H' : Hp} : ∀ {d : D} {v : V} {U : FP}, isFlat d = true → Rep c P H d v U → Rep c P' H' d v fz
  | .non, v, U, _, r => ⟨r.1, rfl⟩
  | .bl _, v, U, _, r => ⟨r.1, rfl⟩
  | .int _, v, U, _, r => ⟨r.1, rfl⟩
  | .str _, v, U, _, r => ⟨r.1, rfl⟩
def callM (F : FM) (ms : AM) : RM := fun ρ => (ms ρ).bind fun ds => (F (iceL ds)).bind fun r => if frzL ds = true ∨ isFlat r.1 = true then some r.1 else none
/-- the views frozen for a while -/
def coldP (U : FP) (P H : Hp) : Hp := fun a => if 0 < U a then H a else P a
theorem coldP_p {U : FP} {P H : Hp} (e : Ex P H) : Ex P (coldP U P H) := fun a o h => by
  unfold coldP
  split
  · exact e a o h
  · exact h
theorem coldP_h {U : FP} {P H : Hp} (e : Ex P H) : Ex (coldP U P H) H := fun a o h => by
  unfold coldP at h
  split at h
  · exact h
  · exact e a o h
theorem coldP_fz {P H : Hp} : coldP fz P H = P := by funext a; simp [coldP, fz]
theorem spD_view {c : LC} {F : FM} {P H : Hp} {ds : List D} {vs : List V} {U : FP} {d : D} {ds' : List D} {Q : VK} {E : XK} (e : Ex P H) (r : RepL c P H ds vs U) (hf : F (iceL ds) = some (d, ds')) (hz : frzL ds = true ∨ isFlat d = true) (q : FQ c P H d Q) : spD c F vs H Q E := by
  refine ⟨coldP U P H, fz, iceL ds, d, ds', RepL.ice (coldP_p e) ds vs U (fun a o h1 h2 => by unfold coldP; rw [if_pos h1]; exact h2) r, coldP_h e, fun _ => Nat.zero_le _, fun a h => by simp [fz] at h, hf, fun v H' P' U2 S' st rd rs => ?_⟩
  have hH : Ex H H' := fun a o h => st.fr a o rfl h
  rcases hz with hz | hz
  · have := RepL.frz0 ds vs U hz r
    subst this
    rw [coldP_fz] at st
    refine q v H' P' U2 ⟨st.p0, hH, st.ph, fun a h => by rcases st.np a h with z | z | z <;> first | exact .inl z | (simp [fz] at z; done) | exact .inr z⟩ rd (fun a => by have := st.le a; simp only [fa] at this; omega) fun a h => ?_
    refine ⟨?_, st.out a (by simp only [fa]; omega)⟩
    rcases st.ns a (by simp only [fa]; omega) with z | z
    · simp [fz] at z
    · exact z
  · exact q v H' P fz ⟨.refl _, hH, e.trans hH, fun a h => .inl h⟩ (flat_any (c := c) hz rd) (fun _ => Nat.zero_le _) fun a h => by simp [fz] at h
section
variable {X : Cx} {cl : Nat → Addr} {E : En} {e a b o : Expr} {es : List Expr} {pos p apos : Pos} {m : RM} {ms : AM} {CX : CXT} {k : Nat} {f C : Addr} {fd : FuncData} {ps : List Str} {F : FM} {XE : XK} {x nm : Str}
theorem call_split {ρ : List D} {d : D} (h : callM F ms ρ = some d) : ∃ ds ds', ms ρ = some ds ∧ F (iceL ds) = some (d, ds') ∧ (frzL ds = true ∨ isFlat d = true) := by
  unfold callM at h
  cases e1 : ms ρ with
  | none => rw [e1] at h; cases h
  | some ds =>
    rw [e1, Option.bind_some] at h
    cases e2 : F (iceL ds) with
    | none => rw [e2] at h; cases h
    | some r =>
      rw [e2, Option.bind_some] at h
      split at h
      · rename_i hz
        cases h
        exact ⟨ds, r.2, rfl, e2, hz⟩
      · cases h
theorem f_call (G : FnOk X.prog X.w X.K X.mg X.base CX k f fd ps (spD ⟨X.K, cl⟩ F)) (hr : Room k X.A) (hg : Gl X x) (hm : X.mg x = some (.ref f)) (hk : PySem.W.keepIn X.K (.ref f) = true) (hb : Binds X.K fd ps []) (hx : Passes CX X XE)
    (ha : PA X (e :: es) (tAR ⟨X.K, cl⟩ E ms)) (hdb : (x == ("__debug__" : Str)) = false := by decide) (he : starEach (e :: es) X.env = (false, eval e X.env) :: starEach es X.env := by rfl) (hpl : (backTo pos (starEach es X.env)).any (·.1) = false := by rfl) :
    PE X (.Call (.Name x p) (e :: es) [] pos) (tF ⟨X.K, cl⟩ E (callM F ms)) := PE_imp (pe_call G hr hg hm hk hb .nil hx ha hdb he hpl) fun σ H Q ⟨P, S, T, ρ, d, w, h, q⟩ => by
  obtain ⟨ds, ds', e1, e2, hz⟩ := call_split h
  refine ⟨P, S, T, ρ, ds, w, e1, fun vs H1 P1 U1 g1 r1 => ?_⟩
  show spD ⟨X.K, cl⟩ F (vs ++ []) H1 Q XE
  rw [List.append_nil]
  exact spD_view g1.ph r1 e2 hz (q.grow g1)
theorem f_call0 (G : FnOk X.prog X.w X.K X.mg X.base CX k f fd ps (spD ⟨X.K, cl⟩ F)) (hr : Room k X.A) (hg : Gl X x) (hm : X.mg x = some (.ref f)) (hk : PySem.W.keepIn X.K (.ref f) = true) (hb : Binds X.K fd ps []) (hx : Passes CX X XE)
    (hdb : (x == ("__debug__" : Str)) = false := by decide) : PE X (.Call (.Name x p) [] [] pos) (tF ⟨X.K, cl⟩ E (callM F nilM)) := PE_imp (pe_call0 G hr hg hm hk hb .nil hx hdb) fun σ H Q ⟨P, S, T, ρ, d, w, h, q⟩ => by
  obtain ⟨ds, ds', e1, e2, hz⟩ := call_split h
  cases e1
  exact spD_view (c := ⟨X.K, cl⟩) (E := XE) (ds := []) (vs := []) w.ph (show RepL ⟨X.K, cl⟩ P H [] [] fz from ⟨rfl, rfl⟩) e2 hz q

/-! ### a new instance -/
def mkM (n : Nat) (F : FM) (ms : AM) : RM := fun ρ => (ms ρ).bind fun ds => if frzL ds = true then (F (.obj true n [] [] :: ds)).bind fun r => match r with | (.non, self :: _) => some self | _ => none else none
theorem mk_run {c : LC} {n : Nat} {P H : Hp} {ds : List D} {vs : List V} {self : D} {ds' : List D} {Q : VK} {XE : XK} (e : Ex P H) (r : RepL c P H ds vs fz) (hf : F (.obj true n [] [] :: ds) = some (.non, self :: ds')) (q : FQ c P H self Q) :
    ∀ x dx, H x = none → H dx = none → dx ≠ x → spD c F (.ref x :: (vs ++ [])) (upd (upd H dx (.own x)) x (.ins (c.cl n) dx [])) (fun v H2 => v = .non ∧ Q (.ref x) H2) XE := by
  intro x dx hx hdx hne
  have ex : Ex H (upd (upd H dx (.own x)) x (.ins (c.cl n) dx [])) := fun a o z => by
    rw [upd_ne (ne_of_none z hx), upd_ne (ne_of_none z hdx)]; exact z
  have back : ∀ a, upd (upd H dx (.own x)) x (.ins (c.cl n) dx []) a = none → H a = none := fun a z => by
    cases q : H a with
    | none => rfl
    | some o => rw [ex a o q] at z; cases z
  rw [List.append_nil]
  refine ⟨P, fa (one x) fz, .obj true n [] [] :: ds, _, _, ⟨.ref x, vs, one x, fz, rfl, ⟨x, dx, [], fz, rfl, upd_same, rfl, ⟨rfl, rfl⟩, (fa_fz _).symm⟩, repL_h r, rfl⟩, e.trans ex, fun a => by rw [fa_fz]; exact one_le a, fun a z => ?_, hf, fun v H' P' U S' st rd rs => ?_⟩
  · rw [fa_fz] at z; rw [one_pos z]; exact none_of e hx
  · rw [fa_fz] at st
    obtain ⟨y, ys, T1, T2, e1, r1, _, e2⟩ := rs
    cases e1
    have hH : Ex H H' := fun a o z => st.fr a o (by unfold one; rw [if_neg (ne_of_none z hx)]) (ex a o z)
    have old : ∀ a, (0 < one x a ∨ upd (upd H dx (.own x)) x (.ins (c.cl n) dx []) a = none) → H a = none := fun a z => by
      rcases z with z | z
      · rw [one_pos z]; exact hx
      · exact back a z
    refine ⟨rd.1, q (.ref x) H' P' T1 ⟨st.p0, hH, st.ph, fun a z => ?_⟩ r1 (fun a => ?_) fun a z => ⟨old a (st.ns a ?_), st.out a ?_⟩⟩
    · rcases st.np a z with z | z | z
      · exact .inl z
      · exact .inr (old a (.inl z))
      · exact .inr (old a (.inr z))
    · have := st.le a; rw [e2] at this; simp only [fa] at this; omega
    · rw [e2]; simp only [fa]; omega
    · rw [e2]; simp only [fa]; omega
theorem mk_split {n : Nat} {ρ : List D} {d : D} (h : mkM n F ms ρ = some d) : ∃ ds ds', ms ρ = some ds ∧ frzL ds = true ∧ F (.obj true n [] [] :: ds) = some (.non, d :: ds') := by
  unfold mkM at h
  cases e1 : ms ρ with
  | none => rw [e1] at h; cases h
  | some ds =>
    rw [e1, Option.bind_some] at h
    split at h
    · rename_i hz
      cases e2 : F (.obj true n [] [] :: ds) with
      | none => rw [e2] at h; cases h
      | some r =>
        rw [e2, Option.bind_some] at h
        split at h
        · cases h; exact ⟨ds, _, rfl, hz, e2⟩
        · cases h
    · cases h
theorem f_mk (n : Nat) (M : Mk X.K (cl n) f) (G : FnOk X.prog X.w X.K X.mg X.base CX k f fd ps (spD ⟨X.K, cl⟩ F)) (hr : Room (k + 1) X.A) (hg : Gl X x) (hm : X.mg x = some (.ref (cl n))) (hb : Binds X.K fd ps []) (hx : Passes CX X XE)
    (ha : PA X (e :: es) (tAR ⟨X.K, cl⟩ E ms)) (hdb : (x == ("__debug__" : Str)) = false := by decide) (he : starEach (e :: es) X.env = (false, eval e X.env) :: starEach es X.env := by rfl) (hpl : (backTo pos (starEach es X.env)).any (·.1) = false := by rfl) :
    PE X (.Call (.Name x p) (e :: es) [] pos) (tF ⟨X.K, cl⟩ E (mkM n F ms)) := PE_imp (pe_make M G hr hg hm hb .nil hx ha hdb he hpl) fun σ H Q ⟨P, S, T, ρ, d, w, h, q⟩ => by
  obtain ⟨ds, ds', e1, hz, e2⟩ := mk_split h
  refine ⟨P, S, T, ρ, ds, w, e1, fun vs H1 P1 U1 g1 r1 => ?_⟩
  have := RepL.frz0 ds vs U1 hz r1
  subst this
  exact mk_run g1.ph r1 e2 (q.grow g1)
theorem f_mk0 (n : Nat) (M : Mk X.K (cl n) f) (G : FnOk X.prog X.w X.K X.mg X.base CX k f fd ps (spD ⟨X.K, cl⟩ F)) (hr : Room (k + 1) X.A) (hg : Gl X x) (hm : X.mg x = some (.ref (cl n))) (hb : Binds X.K fd ps []) (hx : Passes CX X XE)
    (hdb : (x == ("__debug__" : Str)) = false := by decide) : PE X (.Call (.Name x p) [] [] pos) (tF ⟨X.K, cl⟩ E (mkM n F nilM)) := PE_imp (pe_make0 M G hr hg hm hb .nil hx hdb) fun σ H Q ⟨P, S, T, ρ, d, w, h, q⟩ => by
  obtain ⟨ds, ds', e1, hz, e2⟩ := mk_split h
  cases e1
  exact mk_run (c := ⟨X.K, cl⟩) (ds := []) (vs := []) w.ph (show RepL ⟨X.K, cl⟩ P H [] [] fz from ⟨rfl, rfl⟩) e2 q
end

/-! ### places -/
structure Lens where
  get : List D → Option D
  put : List D → D → List D
structure Loc (c : LC) (L : Lens) (P H : Hp) (σ : L2.St) (ρ : List D) (S : FP) (v : V) (d : D) (Sd R : FP) : Prop where
  sum : ∀ a, S a = Sd a + R a
  rep : Rep c P H d v Sd
  put : ∀ (P2 H2 : Hp) (d2 : D) (S2 : FP), Ex P P2 → (∀ a o, 0 < R a → H a = some o → H2 a = some o) → Rep c P2 H2 d2 v S2 → RepE c P2 H2 (L.put ρ d2) σ (fa S2 R)
theorem Loc.grow {c : LC} {L : Lens} {P H P' H' : Hp} {σ : L2.St} {ρ : List D} {S : FP} {v : V} {d : D} {Sd R : FP} (l : Loc c L P H σ ρ S v d Sd R) (g : Gr P H P' H') : Loc c L P' H' σ ρ S v d Sd R :=
  ⟨l.sum, l.rep.gr g, fun P2 H2 d2 S2 e k r => l.put P2 H2 d2 S2 (g.p.trans e) (fun a o h1 h2 => k a o h1 (g.h a o h2)) r⟩
def tPl (c : LC) (E : En) (L : Lens) : TE := fun σ H Q => ∃ P S T ρ d, Wd c E P S T σ H ρ ∧ L.get ρ = some d ∧ ∀ v Sd R, Loc c L P H σ ρ S v d Sd R → Q v H
theorem RepE.focus {c : LC} {P H : Hp} : ∀ {ρ : List D} {σ : L2.St} {S : FP} {i : Nat} {d : D}, RepE c P H ρ σ S → ρ[i]? = some d → notGone d = true → ∃ v Sd R, σ[i]? = some (some v) ∧ Rep c P H d v Sd ∧ (∀ a, S a = Sd a + R a) ∧
    ∀ (P2 H2 : Hp) (d2 : D) (S2 : FP), Ex P P2 → (∀ a o, 0 < R a → H a = some o → H2 a = some o) → Rep c P2 H2 d2 v S2 → RepE c P2 H2 (ρ.set i d2) σ (fa S2 R)
  | [], [], _, i, d, _, e, _ => by simp at e
  | d0 :: ρ, v0 :: σ, S, 0, d, ⟨T, U, r, rs, f⟩, e, n => by
    simp at e; subst e
    cases v0 with
    | none => rw [r.1] at n; cases n
    | some v =>
      exact ⟨v, T, U, rfl, r, fun a => by rw [f]; rfl, fun P2 H2 d2 S2 e1 k r2 => ⟨S2, U, r2, rs.mono e1 ρ σ U k, rfl⟩⟩
  | d0 :: ρ, v0 :: σ, S, i + 1, d, ⟨T, U, r, rs, f⟩, e, n => by
    obtain ⟨v, Sd, R, h1, h2, h3, h4⟩ := RepE.focus (i := i) (d := d) rs (by simpa using e) n
    refine ⟨v, Sd, fa T R, by simpa using h1, h2, fun a => by have := h3 a; rw [f]; simp only [fa]; omega, fun P2 H2 d2 S2 e1 k r2 => ?_⟩
    refine ⟨T, fa S2 R, RepO.mono e1 (fun a o z1 z2 => k a o (by simp only [fa]; omega) z2) r, h4 P2 H2 d2 S2 e1 (fun a o z1 z2 => k a o (by simp only [fa]; omega) z2) r2, by funext a; simp only [fa]; omega⟩
  | [], _ :: _, _, _, _, h, _, _ => h.elim
  | _ :: _, [], _, _, _, h, _, _ => h.elim
theorem RepL.focus {c : LC} {P H : Hp} : ∀ {ds : List D} {xs : List V} {S : FP} {i : Nat} {d : D}, RepL c P H ds xs S → ds[i]? = some d → ∃ v Sd R, xs[i]? = some v ∧ Rep c P H d v Sd ∧ (∀ a, S a = Sd a + R a) ∧
    ∀ (P2 H2 : Hp) (d2 : D) (y : V) (S2 : FP), Ex P P2 → (∀ a o, 0 < R a → H a = some o → H2 a = some o) → Rep c P2 H2 d2 y S2 → RepL c P2 H2 (ds.set i d2) (xs.set i y) (fa S2 R)
  | [], xs, S, i, d, h, e => by simp at e
  | d0 :: ds, xs, S, 0, d, ⟨y, ys, T, U, e1, r, rs, f⟩, e => by
    simp at e; subst e
    subst e1
    exact ⟨y, T, U, rfl, r, fun a => by rw [f]; rfl, fun P2 H2 d2 z S2 e1 k r2 => ⟨z, ys, S2, U, rfl, r2, RepL.mono e1 ds ys U k rs, rfl⟩⟩
  | d0 :: ds, xs, S, i + 1, d, ⟨y, ys, T, U, e1, r, rs, f⟩, e => by
    subst e1
    obtain ⟨v, Sd, R, h1, h2, h3, h4⟩ := RepL.focus (i := i) (d := d) rs (by simpa using e)
    refine ⟨v, Sd, fa T R, by simpa using h1, h2, fun a => by have := h3 a; rw [f]; simp only [fa]; omega, fun P2 H2 d2 z S2 e1 k r2 => ?_⟩
    refine ⟨y, ys.set i z, T, fa S2 R, rfl, Rep.mono e1 d0 y T (fun a o z1 z2 => k a o (by simp only [fa]; omega) z2) r, h4 P2 H2 d2 z S2 e1 (fun a o z1 z2 => k a o (by simp only [fa]; omega) z2) r2, by funext a; simp only [fa]; omega⟩
def vL (i : Nat) : Lens := ⟨fun ρ => (ρ[i]?).bind fun d => if notGone d = true then some d else none, fun ρ d => ρ.set i d⟩
theorem vL_get {i : Nat} {ρ : List D} {d : D} (h : (vL i).get ρ = some d) : ρ[i]? = some d ∧ notGone d = true := by
  unfold vL at h
  cases e : ρ[i]? with
  | none => simp [e] at h
  | some d1 =>
    simp only [e, Option.bind_some] at h
    split at h
    · rename_i hn; cases h; exact ⟨rfl, hn⟩
    · cases h
/-- the place of a field -/
def fIx (f : Str) : List Str → Option Nat
  | [] => none
  | g :: gs => if f = g then some 0 else (fIx f gs).map (· + 1)
def fldL (n : Nat) (f : Str) (L : Lens) : Lens := ⟨fun ρ => (L.get ρ).bind fun d => match d with
    | .obj _ k fs ds => if k = n then (fIx f fs).bind fun j => (ds[j]?).bind fun d => if notGone d = true then some d else none else none
    | _ => none,
  fun ρ d2 => match L.get ρ with
    | some (.obj o k fs ds) => match fIx f fs with
      | some j => L.put ρ (.obj o k fs (ds.set j d2))
      | none => ρ
    | _ => ρ⟩
theorem fIx_lookup {f : Str} : ∀ {fs : List Str} {xs : List V} {j : Nat}, fIx f fs = some j → fs.length = xs.length → (fs.zip xs).lookup f = xs[j]?
  | [], xs, j, h, n => by cases h
  | g :: gs, [], j, h, n => by simp at n
  | g :: gs, x :: xs, j, h, n => by
    unfold fIx at h
    by_cases e : f = g
    · rw [if_pos e] at h; cases h
      have : (f == g) = true := by rw [e]; exact beq_self_eq_true _
      simp [List.lookup, this]
    · rw [if_neg e] at h
      cases z : fIx f gs with
      | none => rw [z] at h; cases h
      | some j' =>
        rw [z] at h; cases h
        have : (f == g) = false := beq_eq_false_iff_ne.mpr e
        simp [List.lookup, this, fIx_lookup z (by simpa using n)]
theorem obj_heap {c : LC} {P H : Hp} (e : Ex P H) {o : Bool} {k : Nat} {fs : List Str} {ds : List D} {v : V} {U : FP} (r : Rep c P H (.obj o k fs ds) v U) : ∃ a dx xs T Z, v = .ref a ∧ H a = some (.ins (c.cl k) dx (fs.zip xs)) ∧ fs.length = xs.length ∧ RepL c P H ds xs T ∧ (∀ b, U b = Z b + T b) ∧
    ∀ (P2 H2 : Hp) (ds2 : List D) (T2 : FP), Ex P P2 → (∀ b u, 0 < Z b → H b = some u → H2 b = some u) → RepL c P2 H2 ds2 xs T2 → Rep c P2 H2 (.obj o k fs ds2) v (fa Z T2) := by
  cases o with
  | true =>
    obtain ⟨a, dx, xs, T, e1, h, n, rl, f⟩ := r
    exact ⟨a, dx, xs, T, one a, e1, h, n, rl, fun b => by rw [f]; rfl, fun P2 H2 ds2 T2 _ hk r2 => ⟨a, dx, xs, T2, e1, hk a _ (by simp [one]) h, n, r2, rfl⟩⟩
  | false =>
    obtain ⟨a, dx, xs, e1, h, n, rl⟩ := r
    exact ⟨a, dx, xs, U, fz, e1, e _ _ h, n, rl, fun b => by simp [fz], fun P2 H2 ds2 T2 hp _ r2 => ⟨a, dx, xs, e1, hp _ _ h, n, by rw [fz_fa]; exact r2⟩⟩
section
variable {X : Cx} {cl : Nat → Addr} {E : En} {e a b o : Expr} {es : List Expr} {pos p apos : Pos} {m : RM} {L : Lens}
theorem p_v (i : Nat) {x : Str} (hN : X.N[i]? = some x := by rfl) (hv : Vis X.env.scope x := by first | exact Or.inl rfl | exact Or.inr (Or.inl rfl) | exact Or.inr (Or.inr rfl)) (hd : (x == ("__debug__" : Str)) = false := by decide)
    (hcd : (x == ("__classdict__" : Str)) = false := by decide) : PE X (.Name x pos) (tPl ⟨X.K, cl⟩ E (vL i)) := PE_imp (pe_var hN hv hd hcd) fun σ H Q ⟨P, S, T, ρ, d, w, hg, q⟩ => by
  obtain ⟨h1, h2⟩ := vL_get hg
  obtain ⟨v, Sd, R, k1, k2, k3, k4⟩ := w.env.focus h1 h2
  exact ⟨v, k1, q v Sd R ⟨k3, k2, k4⟩⟩
theorem fld_split {n : Nat} {f : Str} {ρ : List D} {d : D} (h : (fldL n f L).get ρ = some d) : ∃ o fs ds j, L.get ρ = some (.obj o n fs ds) ∧ fIx f fs = some j ∧ ds[j]? = some d ∧ notGone d = true ∧ ∀ d2, (fldL n f L).put ρ d2 = L.put ρ (.obj o n fs (ds.set j d2)) := by
  unfold fldL at h
  cases e1 : L.get ρ with
  | none => simp [e1] at h
  | some d0 =>
    cases d0 with
    | obj o k fs ds =>
      simp only [e1, Option.bind_some] at h
      split at h
      · rename_i hk
        subst hk
        cases e2 : fIx f fs with
        | none => rw [e2] at h; cases h
        | some j =>
          rw [e2, Option.bind_some] at h
          cases e3 : ds[j]? with
          | none => rw [e3] at h; cases h
          | some d1 =>
            rw [e3, Option.bind_some] at h
            split at h
            · rename_i hn
              cases h
              exact ⟨o, fs, ds, j, rfl, e2, e3, hn, fun d2 => by simp [fldL, e1, e2]⟩
            · cases h
      · cases h
    | _ => simp [e1] at h
theorem p_fld (n : Nat) {f : Str} (hc : Cls X.K (cl n)) (hn : NoAttr X.K (cl n) f) (he : PE X e (tPl ⟨X.K, cl⟩ E L)) (hb : attributeBase e f X.env (eval e X.env) = eval e X.env := by rfl) : PE X (.Attribute e f pos) (tPl ⟨X.K, cl⟩ E (fldL n f L)) := PE_imp (pe_fld he hb) fun σ H Q ⟨P, S, T, ρ, d, w, hg, q⟩ => by
  obtain ⟨o, fs, ds, j, h1, h2, h3, h4, h5⟩ := fld_split hg
  refine ⟨P, S, T, ρ, _, w, h1, fun v Sd R l => ?_⟩
  obtain ⟨a, dx, xs, T1, Z, e1, hh, nl, rl, hz, hput⟩ := obj_heap w.ph l.rep
  obtain ⟨y, S1, R1, k1, k2, k3, k4⟩ := rl.focus h3
  refine ⟨a, cl n, dx, _, y, e1, hh, hc, hn, by rw [fIx_lookup h2 nl]; exact k1, q y S1 (fa (fa Z R1) R) ⟨fun b => ?_, k2, fun P2 H2 d2 S2 ep kr r2 => ?_⟩⟩
  · have := l.sum b; have := hz b; have := k3 b; simp only [fa]; omega
  · rw [h5]
    have rl2 := k4 P2 H2 d2 y S2 ep (fun b u z1 z2 => kr b u (by simp only [fa]; omega) z2) r2
    have e2 : xs.set j y = xs := by
      apply List.ext_getElem?
      intro t
      by_cases ht : t = j
      · subst ht; rw [k1, List.getElem?_set_self (List.getElem?_eq_some_iff.mp k1).1]
      · rw [List.getElem?_set_ne (Ne.symm ht)]
    rw [e2] at rl2
    have := l.put P2 H2 _ _ ep (fun b u z1 z2 => kr b u (by simp only [fa]; omega) z2) (hput P2 H2 _ _ ep (fun b u z1 z2 => kr b u (by simp only [fa]; omega) z2) rl2)
    have e3 : fa (fa Z (fa S2 R1)) R = fa S2 (fa (fa Z R1) R) := by funext b; simp only [fa]; omega
    rw [e3] at this
    exact this
/-- what stands at a place, looked at -/
theorem r_pl (h : PE X e (tPl ⟨X.K, cl⟩ E L)) : PE X e (tR ⟨X.K, cl⟩ E L.get) := PE_imp h fun σ H Q ⟨P, S, T, ρ, d, w, hm, q⟩ => ⟨P, S, T, ρ, d, w, hm, fun v Sd R l => q v H P Sd (.refl w.ph) l.rep⟩
end
end LI
namespace LI
open PySem L2

section
variable {c : LC} {E : En} {P P' : Hp} {S T : FP} {σ : L2.St} {H H' : Hp} {ρ ρ' : List D}
/-- behind a call that had Sd -/
theorem Wd.through {Sd R V S2 U : FP} (w : Wd c E P S T σ H ρ) (hS : ∀ a, S a = Sd a + R a) (st : Stp P Sd H P' V H') (henv : RepE c P' H' ρ' σ S2) (h2 : ∀ a, S2 a + U a ≤ V a + R a) (hU : ∀ a, 0 < U a → H' a ≠ none) : Wd c E P' S2 (fa T U) σ H' ρ' := by
  have there : ∀ a, 0 < R a + T a → H a ≠ none ∧ Sd a = 0 := fun a h => by
    have l := w.le a
    have s := hS a
    refine ⟨?_, by omega⟩
    by_cases hT : 0 < T a
    · exact w.th a hT
    · exact RepE.there ρ σ S w.env a (by omega)
  have apart : ∀ a, 0 < V a → R a + T a = 0 := fun a h => by
    rcases st.ns a h with z | z
    · have l := w.le a; have s := hS a; omega
    · rcases Nat.eq_zero_or_pos (R a + T a) with q | q
      · exact q
      · exact absurd z (there a q).1
  have stay : ∀ a, 0 < R a + T a → P' a = none := fun a h => by
    cases q : P' a with
    | none => rfl
    | some o =>
      rcases st.np a (by rw [q]; simp) with z | z | z
      · exact absurd (w.out a (by have := hS a; omega)) z
      · have := (there a h).2; omega
      · exact absurd z (there a h).1
  refine ⟨henv, fun a => ?_, fun a h => ?_, fun a h => ?_, st.ph, w.p0.trans st.p0, fun a o h1 h2 => ?_, fun a h => ?_, fun a h => ?_, w.kp⟩
  · have h2a := h2 a; have le := st.le a; have l := w.le a; have s := hS a
    simp only [fa]
    by_cases hv : 0 < V a
    · have := apart a hv; omega
    · omega
  · simp only [fa] at h
    have h2a := h2 a
    by_cases hv : 0 < V a
    · exact st.out a hv
    · exact stay a (by omega)
  · simp only [fa] at h
    by_cases hT : 0 < T a
    · cases z : H a with
      | none => exact absurd z (w.th a hT)
      | some o => rw [st.fr a o (there a (by omega)).2 z]; simp
    · exact hU a (by omega)
  · refine st.fr a o ?_ (w.fr a o h1 h2)
    rcases Nat.eq_zero_or_pos (Sd a) with z | z
    · exact z
    · rcases w.ns a (by have := hS a; omega) with q | q
      · omega
      · rw [q] at h2; cases h2
  · rcases st.np a h with z | z | z
    · exact w.np a z
    · rcases w.ns a (by have := hS a; omega) with q | q
      · exact .inr (.inl q)
      · exact .inr (.inr q)
    · cases q : E.H0 a with
      | none => exact .inr (.inr rfl)
      | some o =>
        by_cases hs : E.S0 a = 0
        · rw [w.fr a o hs q] at z; cases z
        · exact .inr (.inl (by omega))
  · simp only [fa] at h
    have h2a := h2 a
    by_cases hv : 0 < V a
    · rcases st.ns a hv with z | z
      · exact w.ns a (by have := hS a; omega)
      · cases q : E.H0 a with
        | none => exact .inr rfl
        | some o =>
          by_cases hs : E.S0 a = 0
          · rw [w.fr a o hs q] at z; cases z
          · exact .inl (by omega)
    · exact w.ns a (by have := hS a; omega)
/-- an owned object is written -/
theorem Wd.upd {S2 T2 : FP} {a : Addr} {o : HO} (w : Wd c E P S T σ H ρ) (ha : 0 < S a) (henv : RepE c P (upd H a o) ρ' σ S2) (h : ∀ b, S2 b + T2 b ≤ S b + T b) (ht : ∀ b, T2 b ≤ T b) : Wd c E P S2 T2 σ (L2.upd H a o) ρ' := by
  have hP : P a = none := w.out a (by omega)
  refine ⟨henv, fun b => Nat.le_trans (h b) (w.le b), fun b z => w.out b (Nat.lt_of_lt_of_le z (h b)), fun b z => ?_, fun b u z => ?_, w.p0, fun b u z1 z2 => ?_, w.np, fun b z => w.ns b (Nat.lt_of_lt_of_le z (h b)), w.kp⟩
  · by_cases e : b = a
    · subst e; rw [upd_same]; simp
    · rw [upd_ne e]; exact w.th b (Nat.lt_of_lt_of_le z (ht b))
  · have e : b ≠ a := fun q => by subst q; rw [hP] at z; cases z
    rw [upd_ne e]; exact w.ph b u z
  · have e : b ≠ a := fun q => by
      subst q
      rcases w.ns b (by omega) with y | y
      · omega
      · rw [y] at z2; cases z2
    rw [upd_ne e]; exact w.fr b u z1 z2
end

section
variable {X : Cx} {cl : Nat → Addr} {E : En} {e a b o : Expr} {es : List Expr} {pos p apos : Pos} {m : RM} {ms : AM} {CX : CXT} {k n : Nat} {f C : Addr} {fd : FuncData} {ps : List Str} {F : FM} {XE : XK} {x nm : Str} {L : Lens}
/-! ### methods of own classes -/
def isObjK (n : Nat) (nm : Str) : D → Bool
  | .obj _ k fs _ => decide (k = n) && !fs.contains nm
  | _ => false
def methM (n : Nat) (nm : Str) (L : Lens) (F : FM) (ms : AM) : GM := fun ρ => (L.get ρ).bind fun self => (ms ρ).bind fun ds => if isObjK n nm self = true ∧ frzL ds = true then (F (self :: ds)).bind fun r => match r.2 with | self' :: _ => some (r.1, L.put ρ self') | [] => none else none
theorem lookup_zip_none {nm : Str} : ∀ {fs : List Str} {xs : List V}, fs.contains nm = false → (fs.zip xs).lookup nm = none
  | [], _, _ => rfl
  | _ :: _, [], _ => rfl
  | g :: gs, y :: ys, h => by
    simp only [List.contains_cons, Bool.or_eq_false_iff] at h
    rw [List.zip_cons_cons]
    show (match nm == g with | true => some y | false => List.lookup nm (gs.zip ys)) = none
    rw [h.1]
    exact lookup_zip_none h.2
theorem isObj_v {c : LC} {P H : Hp} (e : Ex P H) {d : D} {v : V} {U : FP} (h : isObjK n nm d = true) (r : Rep c P H d v U) : ∃ a dx fs, v = .ref a ∧ H a = some (.ins (c.cl n) dx fs) ∧ fs.lookup nm = none := by
  cases d with
  | obj o k fs ds =>
    simp only [isObjK, Bool.and_eq_true, decide_eq_true_eq, Bool.not_eq_true'] at h
    obtain ⟨rfl, hn⟩ := h
    obtain ⟨a, dx, xs, T, Z, e1, hh, nl, _⟩ := obj_heap e r
    exact ⟨a, dx, _, e1, hh, lookup_zip_none hn⟩
  | _ => cases h
theorem meth_run (h : tG ⟨X.K, cl⟩ E (methM n nm L F ms) σ H Q) : tMeth (cl n) nm (spD ⟨X.K, cl⟩ F) [] XE (tPl ⟨X.K, cl⟩ E L) (tAR ⟨X.K, cl⟩ E ms) σ H Q := by
  obtain ⟨P, S, T, ρ, d, ρ', w, hm, q⟩ := h
  unfold methM at hm
  cases e1 : L.get ρ with
  | none => rw [e1] at hm; cases hm
  | some self =>
    cases e2 : ms ρ with
    | none => rw [e1, e2] at hm; cases hm
    | some ds =>
      rw [e1, e2, Option.bind_some, Option.bind_some] at hm
      split at hm
      · rename_i hc
        cases e3 : F (self :: ds) with
        | none => rw [e3] at hm; cases hm
        | some r =>
          obtain ⟨d1, rs⟩ := r
          rw [e3, Option.bind_some] at hm
          cases rs with
          | nil => cases hm
          | cons self' rs =>
            cases hm
            refine ⟨P, S, T, ρ, self, w, e1, fun v Sd R l => ?_⟩
            obtain ⟨a, dx, fs, ev, hh, hl⟩ := isObj_v w.ph hc.1 l.rep
            refine ⟨a, dx, fs, ev, hh, hl, P, S, T, ρ, ds, w, e2, fun vs H1 P1 U1 g1 r1 => ?_⟩
            have z := RepL.frz0 ds vs U1 hc.2 r1
            subst z
            have l1 := l.grow g1
            have w1 := w.grow g1
            show spD ⟨X.K, cl⟩ F (v :: (vs ++ [])) H1 Q XE
            rw [List.append_nil]
            refine ⟨P1, fa Sd fz, self :: ds, d1, self' :: rs, ⟨v, vs, Sd, fz, rfl, l1.rep, r1, rfl⟩, g1.ph, fun b => by have := w.le b; have := l.sum b; simp only [fa, fz]; omega, fun b hb => w1.out b (by have := l.sum b; simp only [fa, fz] at hb; omega), e3, fun v2 H2 P2 U S' st rd rl => ?_⟩
            rw [fa_fz] at st
            obtain ⟨y, ys, T1, T2, e4, rself, _, e5⟩ := rl
            cases e4
            have henv := l1.put P2 H2 self' T1 st.p0 (fun b u hb hu => st.fr b u (by have := w.le b; have := l.sum b; omega) hu) rself
            have w2 := w1.through l1.sum st henv (U := U) (fun b => by rw [e5]; simp only [fa]; omega) (Rep.there d1 v2 U rd)
            exact q v2 H2 P2 _ U w2 (g1.p.trans st.p0) rd fun b u hb hu => st.fr b u (by have := w.le b; have := l.sum b; omega) (g1.h b u hu)
      · cases hm
theorem g_meth {pl : Sem Bool} (n : Nat) (he : PE X o (tPl ⟨X.K, cl⟩ E L)) (c : Cls X.K (cl n)) (hm : Meth X.K (cl n) nm f) (G : FnOk X.prog X.w X.K X.mg X.base CX k f fd ps (spD ⟨X.K, cl⟩ F)) (hr : Room k X.A) (hb : Binds X.K fd ps []) (hx : Passes CX X XE) (ha : PA X (e :: es) (tAR ⟨X.K, cl⟩ E ms))
    (hst : starEach (e :: es) X.env = (false, eval e X.env) :: starEach es X.env := by rfl) (hpl : (backTo pos (starEach es X.env)).any (·.1) = false := by rfl)
    (ht : eval (.Call (.Attribute o nm apos) (e :: es) [] pos) X.env = (do
      let ov ← eval o X.env
      standAt apos.atName
      let (f, first) ← holding [ov] (getMethod ov nm pl)
      callWith pos f first (backTo pos (starEach (e :: es) X.env)) (backToKw pos (keywordEach [] X.env))) := by rfl) :
    PE X (.Call (.Attribute o nm apos) (e :: es) [] pos) (tG ⟨X.K, cl⟩ E (methM n nm L F ms)) := PE_imp (pe_meth he c hm G hr hb .nil hx ha hst hpl ht) fun _ _ _ h => meth_run h
theorem g_meth0 {pl : Sem Bool} (n : Nat) (he : PE X o (tPl ⟨X.K, cl⟩ E L)) (c : Cls X.K (cl n)) (hm : Meth X.K (cl n) nm f) (G : FnOk X.prog X.w X.K X.mg X.base CX k f fd ps (spD ⟨X.K, cl⟩ F)) (hr : Room k X.A) (hb : Binds X.K fd ps []) (hx : Passes CX X XE)
    (ht : eval (.Call (.Attribute o nm apos) [] [] pos) X.env = (do
      let ov ← eval o X.env
      standAt apos.atName
      let (f, first) ← holding [ov] (getMethod ov nm pl)
      callWith pos f first (backTo pos (starEach [] X.env)) (backToKw pos (keywordEach [] X.env))) := by rfl) :
    PE X (.Call (.Attribute o nm apos) [] [] pos) (tG ⟨X.K, cl⟩ E (methM n nm L F nilM)) := PE_imp (pe_meth0 he c hm G hr hb .nil hx ht) fun σ H Q h => by
  have h2 := meth_run (XE := XE) h
  obtain ⟨P, S, T, ρ, d, w, hg, q⟩ := h2
  refine ⟨P, S, T, ρ, d, w, hg, fun v Sd R l => ?_⟩
  obtain ⟨a, dx, fs, ev, hh, hl, P2, S2, T2, ρ2, ds, w2, hn, q2⟩ := q v Sd R l
  cases hn
  exact ⟨a, dx, fs, ev, hh, hl, q2 [] H P2 fz (.refl w2.ph) ⟨rfl, rfl⟩⟩
/-- a look by a method (a flat answer, or all of it fixed) -/
def lookM (n : Nat) (nm : Str) (mo : RM) (F : FM) (ms : AM) : RM := fun ρ => (mo ρ).bind fun self => (ms ρ).bind fun ds => if isObjK n nm self = true then (F (iceL (self :: ds))).bind fun r => if frzL (self :: ds) = true ∨ isFlat r.1 = true then some r.1 else none else none
theorem look_run {mo : RM} (h : tF ⟨X.K, cl⟩ E (lookM n nm mo F ms) σ H Q) : tMeth (cl n) nm (spD ⟨X.K, cl⟩ F) [] XE (tR ⟨X.K, cl⟩ E mo) (tAR ⟨X.K, cl⟩ E ms) σ H Q := by
  obtain ⟨P, S, T, ρ, d, w, hm, q⟩ := h
  unfold lookM at hm
  cases e1 : mo ρ with
  | none => rw [e1] at hm; cases hm
  | some self =>
    cases e2 : ms ρ with
    | none => rw [e1, e2] at hm; cases hm
    | some ds =>
      rw [e1, e2, Option.bind_some, Option.bind_some] at hm
      split at hm
      · rename_i hc
        cases e3 : F (iceL (self :: ds)) with
        | none => rw [e3] at hm; cases hm
        | some r =>
          rw [e3, Option.bind_some] at hm
          split at hm
          · rename_i hz
            cases hm
            refine ⟨P, S, T, ρ, self, w, e1, fun v H1 P1 U1 g1 r1 => ?_⟩
            obtain ⟨a, dx, fs, ev, hh, hl⟩ := isObj_v g1.ph hc r1
            refine ⟨a, dx, fs, ev, hh, hl, P1, S, T, ρ, ds, w.grow g1, e2, fun vs H2 P2 U2 g2 r2 => ?_⟩
            show spD ⟨X.K, cl⟩ F (v :: (vs ++ [])) H2 Q XE
            rw [List.append_nil]
            exact spD_view (ds' := r.2) g2.ph (show RepL ⟨X.K, cl⟩ P2 H2 (self :: ds) (v :: vs) (fa U1 U2) from ⟨v, vs, U1, U2, rfl, r1.gr g2, r2, rfl⟩) e3 hz (q.grow (g1.trans g2))
          · cases hm
      · cases hm
theorem f_look {pl : Sem Bool} {mo : RM} (n : Nat) (he : PE X o (tR ⟨X.K, cl⟩ E mo)) (c : Cls X.K (cl n)) (hm : Meth X.K (cl n) nm f) (G : FnOk X.prog X.w X.K X.mg X.base CX k f fd ps (spD ⟨X.K, cl⟩ F)) (hr : Room k X.A) (hb : Binds X.K fd ps []) (hx : Passes CX X XE) (ha : PA X (e :: es) (tAR ⟨X.K, cl⟩ E ms))
    (hst : starEach (e :: es) X.env = (false, eval e X.env) :: starEach es X.env := by rfl) (hpl : (backTo pos (starEach es X.env)).any (·.1) = false := by rfl)
    (ht : eval (.Call (.Attribute o nm apos) (e :: es) [] pos) X.env = (do
      let ov ← eval o X.env
      standAt apos.atName
      let (f, first) ← holding [ov] (getMethod ov nm pl)
      callWith pos f first (backTo pos (starEach (e :: es) X.env)) (backToKw pos (keywordEach [] X.env))) := by rfl) :
    PE X (.Call (.Attribute o nm apos) (e :: es) [] pos) (tF ⟨X.K, cl⟩ E (lookM n nm mo F ms)) := PE_imp (pe_meth he c hm G hr hb .nil hx ha hst hpl ht) fun _ _ _ h => look_run h
theorem f_look0 {pl : Sem Bool} {mo : RM} (n : Nat) (he : PE X o (tR ⟨X.K, cl⟩ E mo)) (c : Cls X.K (cl n)) (hm : Meth X.K (cl n) nm f) (G : FnOk X.prog X.w X.K X.mg X.base CX k f fd ps (spD ⟨X.K, cl⟩ F)) (hr : Room k X.A) (hb : Binds X.K fd ps []) (hx : Passes CX X XE)
    (ht : eval (.Call (.Attribute o nm apos) [] [] pos) X.env = (do
      let ov ← eval o X.env
      standAt apos.atName
      let (f, first) ← holding [ov] (getMethod ov nm pl)
      callWith pos f first (backTo pos (starEach [] X.env)) (backToKw pos (keywordEach [] X.env))) := by rfl) :
    PE X (.Call (.Attribute o nm apos) [] [] pos) (tF ⟨X.K, cl⟩ E (lookM n nm mo F nilM)) := PE_imp (pe_meth0 he c hm G hr hb .nil hx ht) fun σ H Q h => by
  obtain ⟨P, S, T, ρ, d, w, hg, q⟩ := look_run (XE := XE) h
  refine ⟨P, S, T, ρ, d, w, hg, fun v H1 P1 U1 g1 r1 => ?_⟩
  obtain ⟨a, dx, fs, ev, hh, hl, P2, S2, T2, ρ2, ds, w2, hn, q2⟩ := q v H1 P1 U1 g1 r1
  cases hn
  exact ⟨a, dx, fs, ev, hh, hl, q2 [] H1 P2 fz (.refl w2.ph) ⟨rfl, rfl⟩⟩

/-! ### lists at places -/
/-- the list at a place becomes another: its items' footprint T1 before, T2 behind -/
theorem loc_lst {c : LC} {P H : Hp} {S T U : FP} {ρ : List D} {v : V} {ds : List D} {Sd R : FP} (w : Wd c E P S (fa T U) σ H ρ) (l : Loc c L P H σ ρ S v (.lst true ds) Sd R) : ∃ a xs T1, v = .ref a ∧ H a = some (.lst xs) ∧ RepL c P H ds xs T1 ∧ (∀ b, Sd b = one a b + T1 b) ∧
    ∀ (ys : List V) (es : List D) (T2 U2 : FP), RepL c P (upd H a (.lst ys)) es ys T2 → (∀ b, T2 b + U2 b ≤ T1 b + U b) → Wd c E P (fa (fa (one a) T2) R) (fa T U2) σ (upd H a (.lst ys)) (L.put ρ (.lst true es)) := by
  obtain ⟨a, xs, T1, e1, hh, rl, f⟩ := l.rep
  have hSd : ∀ b, Sd b = one a b + T1 b := fun b => by rw [f]; rfl
  refine ⟨a, xs, T1, e1, hh, rl, hSd, fun ys es T2 U2 r2 hb => ?_⟩
  have ha : 0 < S a := by have := l.sum a; have := hSd a; simp [one] at *; omega
  have henv := l.put P (upd H a (.lst ys)) (.lst true es) (fa (one a) T2) (.refl _) (fun b u hb hu => by
    have hne : b ≠ a := fun z => by
      subst z
      have := w.le b; have := l.sum b; have := hSd b
      simp [one] at *; omega
    rw [upd_ne hne]; exact hu) ⟨a, ys, T2, e1, upd_same, r2, rfl⟩
  have wT : Wd c E P S (fa T U) σ H ρ := w
  -- the part aside may give to the slots
  have hP : P a = none := w.out a (by omega)
  refine ⟨henv, fun b => ?_, fun b z => ?_, fun b z => ?_, fun b u z => ?_, w.p0, fun b u z1 z2 => ?_, w.np, fun b z => ?_, w.kp⟩
  · have := w.le b; have := l.sum b; have := hSd b; have := hb b; simp only [fa] at *; omega
  · refine w.out b ?_; have := l.sum b; have := hSd b; have := hb b; simp only [fa] at *; omega
  · by_cases e : b = a
    · subst e; rw [upd_same]; simp
    · rw [upd_ne e]
      by_cases hT : 0 < fa T U b
      · exact w.th b hT
      · refine RepE.there ρ σ S w.env b ?_
        have := l.sum b; have := hSd b; have := hb b; simp only [fa] at *; omega
  · have e : b ≠ a := fun q => by subst q; rw [hP] at z; cases z
    rw [upd_ne e]; exact w.ph b u z
  · have e : b ≠ a := fun q => by
      subst q
      rcases w.ns b (by omega) with y | y
      · omega
      · rw [y] at z2; cases z2
    rw [upd_ne e]; exact w.fr b u z1 z2
  · refine w.ns b ?_; have := l.sum b; have := hSd b; have := hb b; simp only [fa] at *; omega
theorem wd_keep {c : LC} {P H : Hp} {S T : FP} {ρ : List D} {a : Addr} {u : HO} (w : Wd c E P S T σ H ρ) (ha : 0 < S a) : ∀ b o, 0 < T b → H b = some o → upd H a u b = some o := fun b o h1 h2 => by
  have : b ≠ a := fun z => by subst z; have := w.le b; omega
  rw [upd_ne this]; exact h2
def appL (L : Lens) (m : RM) : GM := fun ρ => (L.get ρ).bind fun d => (m ρ).bind fun y => match d with | .lst true ds => if ds.length < LIM then some (.non, L.put ρ (.lst true (ds ++ [y]))) else none | _ => none
theorem repL_h' {c : LC} {P H H' : Hp} {ds : List D} {xs : List V} {S : FP} (r : RepL c P H ds xs S) (k : ∀ a o, 0 < S a → H a = some o → H' a = some o) : RepL c P H' ds xs S := RepL.mono (.refl _) ds xs S k r
theorem g_app (he : PE X o (tPl ⟨X.K, cl⟩ E L)) (ha : PE X e (tF ⟨X.K, cl⟩ E m))
    (hbase : attributeBase o "append" X.env (eval o X.env) = eval o X.env := by rfl)
    (hfew : ((backTo pos (starEach [e] X.env)).all (fun x => !x.1) && (backToKw pos (keywordEach [] X.env)).all (fun x => x.1.isSome)
      && decide ([e].length + ([] : List Keyword).length + (if ([] : List Keyword).isEmpty then 0 else 1) < 30)) = true := by rfl)
    (hline : (apos.endLine == pos.line) = true := by rfl) (hs : starEach [e] X.env = (false, eval e X.env) :: starEach [] X.env := by rfl) : PE X (.Call (.Attribute o "append" apos) [e] [] pos) (tG ⟨X.K, cl⟩ E (appL L m)) := by
  refine PE_imp (pe_bm PySem.F.plainAttrs_list PySem.F.slot_list_append PySem.F.type_list_append mt_append he (pa_cons ha pa_nil hs) hbase hfew hline hs) fun σ H Q ⟨P, S, T, ρ, d, ρ', w, hm, q⟩ => ?_
  unfold appL at hm
  cases e1 : L.get ρ with
  | none => rw [e1] at hm; cases hm
  | some d0 =>
    cases e2 : m ρ with
    | none => rw [e1, e2] at hm; cases hm
    | some y =>
      rw [e1, e2, Option.bind_some, Option.bind_some] at hm
      split at hm
      · rename_i ds
        split at hm
        · rename_i hl
          cases hm
          refine ⟨P, S, T, ρ, _, w, e1, fun v Sd R l => ?_⟩
          obtain ⟨a0, xs0, T0, e0, h0, _⟩ := l.rep
          refine ⟨by rw [e0]; exact .inl ⟨rfl, xs0, .inl (.inl h0)⟩, P, S, T, ρ, y, w, e2, fun z H1 P1 U1 g1 r1 u1 u2 => ?_⟩
          have w1 := w.aside g1 u1 u2 (Rep.there y z U1 r1)
          obtain ⟨a, xs, T1, ev, hh, rl, hS, k⟩ := loc_lst w1 (l.grow g1)
          have hl' : xs.length < sizeLine := by rw [← rl.length]; exact lim_lt hl
          have ha0 : 0 < S a := by have := l.sum a; have := hS a; simp [one] at *; omega
          refine ⟨a, xs, z, ev, rfl, hh, hl', ?_⟩
          have keepT : ∀ b u, 0 < T1 b + U1 b → H1 b = some u → upd H1 a (.lst (xs ++ [z])) b = some u := fun b u hb hu => by
            have : b ≠ a := fun q => by
              subst q
              have := w1.le b; have := l.sum b; have := hS b
              simp [one, fa] at *; omega
            rw [upd_ne this]; exact hu
          have r2 : RepL ⟨X.K, cl⟩ P1 (upd H1 a (.lst (xs ++ [z]))) (ds ++ [y]) (xs ++ [z]) (fa T1 (fa U1 fz)) :=
            RepL.append (repL_h' rl fun b u hb hu => keepT b u (by omega) hu) ⟨z, [], U1, fz, rfl, Rep.mono (.refl _) y z U1 (fun b u hb hu => keepT b u (by omega) hu) r1, ⟨rfl, rfl⟩, rfl⟩
          have w2 := k _ _ _ fz r2 fun b => by simp only [fa, fz]; omega
          exact q .non _ P1 _ fz w2 g1.p ⟨rfl, rfl⟩ fun b u hb hu => by
            have : b ≠ a := fun z2 => by subst z2; have := w.le b; omega
            rw [upd_ne this]; exact g1.h b u hu
        · cases hm
      · cases hm
end
end LI
namespace LI
open PySem L2

section
variable {X : Cx} {cl : Nat → Addr} {E : En} {e a b o : Expr} {es : List Expr} {pos pos' p apos : Pos} {m : RM} {g : GM} {ms : AM} {n : Nat} {f nm : Str} {L : Lens} {σ : L2.St}
/-- what is owned at a place becomes another thing at its address -/
theorem loc_own {c : LC} {P H : Hp} {S T U : FP} {ρ : List D} {v : V} {d : D} {Sd R T1 : FP} {a : Addr} (w : Wd c E P S (fa T U) σ H ρ) (l : Loc c L P H σ ρ S v d Sd R) (hSd : ∀ b, Sd b = one a b + T1 b) (hu : ∀ b, 0 < T1 b + U b → H b ≠ none) :
    ∀ (o : HO) (d2 : D) (T2 U2 : FP), Rep c P (upd H a o) d2 v (fa (one a) T2) → (∀ b, T2 b + U2 b ≤ T1 b + U b) → Wd c E P (fa (fa (one a) T2) R) (fa T U2) σ (upd H a o) (L.put ρ d2) := by
  intro o d2 T2 U2 r2 hb
  have ha : 0 < S a := by have := l.sum a; have := hSd a; simp [one] at *; omega
  have henv := l.put P (upd H a o) d2 (fa (one a) T2) (.refl _) (fun b u hb hu => by
    have hne : b ≠ a := fun z => by
      subst z
      have := w.le b; have := l.sum b; have := hSd b
      simp [one] at *; omega
    rw [upd_ne hne]; exact hu) r2
  have hP : P a = none := w.out a (by omega)
  refine ⟨henv, fun b => ?_, fun b z => ?_, fun b z => ?_, fun b u z => ?_, w.p0, fun b u z1 z2 => ?_, w.np, fun b z => ?_, w.kp⟩
  · have := w.le b; have := l.sum b; have := hSd b; have := hb b; simp only [fa] at *; omega
  · refine w.out b ?_; have := l.sum b; have := hSd b; have := hb b; simp only [fa] at *; omega
  · by_cases e : b = a
    · subst e; rw [upd_same]; simp
    · rw [upd_ne e]
      by_cases hT : 0 < fa T U b
      · exact w.th b hT
      · refine hu b ?_
        have := hb b; simp only [fa] at *; omega
  · have e : b ≠ a := fun q => by subst q; rw [hP] at z; cases z
    rw [upd_ne e]; exact w.ph b u z
  · have e : b ≠ a := fun q => by
      subst q
      rcases w.ns b (by omega) with y | y
      · omega
      · rw [y] at z2; cases z2
    rw [upd_ne e]; exact w.fr b u z1 z2
  · refine w.ns b ?_; have := l.sum b; have := hSd b; have := hb b; simp only [fa] at *; omega
/-- the rest is kept when a is written -/
theorem keep_own {c : LC} {P H : Hp} {S T : FP} {ρ : List D} {v : V} {d : D} {Sd R T1 : FP} {a : Addr} (w : Wd c E P S T σ H ρ) (l : Loc c L P H σ ρ S v d Sd R) (hSd : ∀ b, Sd b = one a b + T1 b) (o : HO) : ∀ b u, 0 < T1 b + T b → H b = some u → upd H a o b = some u := fun b u hb hu => by
  have : b ≠ a := fun q => by
    subst q
    have := w.le b; have := l.sum b; have := hSd b
    simp [one] at *; omega
  rw [upd_ne this]; exact hu

/-! ### o.f = e -/
def putFD (f : Str) (d : D) (fs : List Str) (ds : List D) : D × List Str := match fIx f fs with
  | some j => (.lst true (ds.set j d), fs)
  | none => (.lst true (ds ++ [d]), fs ++ [f])
def setFD (n : Nat) (f : Str) (d : D) : D → Option D
  | .obj true k fs ds => if k = n ∧ fs.length < 1000 then some (match fIx f fs with | some j => .obj true k fs (ds.set j d) | none => .obj true k (fs ++ [f]) (ds ++ [d])) else none
  | _ => none
def fldM (n : Nat) (f : Str) (L : Lens) (g : GM) : SM := fun ρ => (g ρ).bind fun r => (L.get r.2).bind fun self => (setFD n f r.1 self).map fun self' => (.nx, L.put r.2 self')
theorem fIx_lt {f : Str} : ∀ {fs : List Str} {j : Nat}, fIx f fs = some j → j < fs.length
  | [], j, h => by cases h
  | g :: gs, j, h => by
    unfold fIx at h
    by_cases e : f = g
    · rw [if_pos e] at h; cases h; simp
    · rw [if_neg e] at h
      cases z : fIx f gs with
      | none => rw [z] at h; cases h
      | some j' => rw [z] at h; cases h; have := fIx_lt z; simp; omega
theorem putF_some {f : Str} {y : V} : ∀ {fs : List Str} {xs : List V} {j : Nat}, fIx f fs = some j → fs.length = xs.length → putF f y (fs.zip xs) = fs.zip (xs.set j y)
  | [], xs, j, h, n => by cases h
  | g :: gs, [], j, h, n => by simp at n
  | g :: gs, x :: xs, j, h, n => by
    unfold fIx at h
    by_cases e : f = g
    · rw [if_pos e] at h; cases h
      rw [List.zip_cons_cons]
      show (if g = f then (g, y) :: gs.zip xs else _) = _
      rw [if_pos e.symm]; rfl
    · rw [if_neg e] at h
      cases z : fIx f gs with
      | none => rw [z] at h; cases h
      | some j' =>
        rw [z] at h; cases h
        rw [List.zip_cons_cons]
        show (if g = f then _ else (g, x) :: putF f y (gs.zip xs)) = _
        rw [if_neg (fun q => e q.symm), putF_some z (by simpa using n)]; rfl
theorem putF_none {f : Str} {y : V} : ∀ {fs : List Str} {xs : List V}, fIx f fs = none → fs.length = xs.length → putF f y (fs.zip xs) = (fs ++ [f]).zip (xs ++ [y])
  | [], xs, h, n => by
    have : xs = [] := List.length_eq_zero_iff.mp n.symm
    subst this; rfl
  | g :: gs, [], h, n => by simp at n
  | g :: gs, x :: xs, h, n => by
    unfold fIx at h
    by_cases e : f = g
    · rw [if_pos e] at h; cases h
    · rw [if_neg e] at h
      have z : fIx f gs = none := by cases z : fIx f gs with | none => rfl | some j' => rw [z] at h; cases h
      rw [List.zip_cons_cons]
      show (if g = f then _ else (g, x) :: putF f y (gs.zip xs)) = _
      rw [if_neg (fun q => e q.symm), putF_none z (by simpa using n)]; rfl
theorem s_fld (n : Nat) {value : Expr} (hc : Cls X.K (cl n)) (hn : NoAttr X.K (cl n) f) (he : PE X value (tG ⟨X.K, cl⟩ E g)) (ho : PE X o (tPl ⟨X.K, cl⟩ E L)) (hs : swapsWith value (some (.Attribute o f pos')) pos.line X.env = pure false := by rfl) :
    PS X (.Assign [.Attribute o f pos'] value pos) (tS ⟨X.K, cl⟩ E (fldM n f L g)) := PS_imp (ps_fld ho he hs) fun D σ H ⟨P, S, ρ, fl, ρ', w, hm, q⟩ => by
  unfold fldM at hm
  cases eg : g ρ with
  | none => rw [eg] at hm; cases hm
  | some r =>
    obtain ⟨d, ρ1⟩ := r
    rw [eg, Option.bind_some] at hm
    cases el : L.get ρ1 with
    | none => rw [el] at hm; cases hm
    | some self =>
      rw [el, Option.bind_some] at hm
      cases ef : setFD n f d self with
      | none => rw [ef] at hm; cases hm
      | some self' =>
        rw [ef] at hm
        cases hm
        refine g_run w eg fun y H1 P1 S1 U w1 e1 r1 => ⟨P1, S1, U, ρ1, self, w1, el, fun v Sd R l => ?_⟩
        unfold setFD at ef
        split at ef
        · rename_i k fs ds
          split at ef
          · rename_i hk
            obtain ⟨rfl, hl⟩ := hk
            cases ef
            obtain ⟨a, dx, xs, T1, ev, hh, nl, rl, hf⟩ := l.rep
            have hS : ∀ b, Sd b = one a b + T1 b := fun b => by rw [hf]; rfl
            have w1' : Wd ⟨X.K, cl⟩ E P1 S1 (fa fz U) σ H1 ρ1 := by rw [fz_fa]; exact w1
            refine ⟨a, cl k, dx, _, ev, hh, hc, hn, by rw [List.length_zip]; omega, ?_⟩
            have kp := fun o => keep_own w1 l hS o
            have hu : ∀ b, 0 < T1 b + U b → H1 b ≠ none := fun b hb => by
              by_cases hU : 0 < U b
              · exact w1.th b hU
              · exact RepL.there ds xs T1 rl b (by omega)
            cases ej : fIx f fs with
            | some j =>
              have hj : j < xs.length := by
                have := fIx_lt ej
                omega
              obtain ⟨x0, hx0⟩ : ∃ x0, ds[j]? = some x0 := ⟨_, List.getElem?_eq_getElem (by rw [rl.length]; exact hj)⟩
              obtain ⟨v0, S0, R0, k1, k2, k3, k4⟩ := rl.focus hx0
              rw [putF_some ej nl]
              have rnew := k4 P1 (upd H1 a (.ins (cl k) dx (fs.zip (xs.set j y)))) d y U (.refl _) (fun b u hb hu => kp _ b u (by have := k3 b; omega) hu) (Rep.mono (.refl _) d y U (fun b u hb hu => kp _ b u (by omega) hu) r1)
              have w2 := loc_own w1' l hS hu (.ins (cl k) dx (fs.zip (xs.set j y))) (.obj true k fs (ds.set j d)) (fa U R0) fz ⟨a, dx, _, fa U R0, ev, upd_same, by rw [List.length_set]; exact nl, rnew, rfl⟩ (fun b => by have := k3 b; simp only [fa, fz]; omega)
              rw [fa_fz] at w2
              simp only [ej] at q
              exact q σ _ P1 _ w2 e1
            | none =>
              rw [putF_none ej nl]
              have rnew : RepL ⟨X.K, cl⟩ P1 (upd H1 a (.ins (cl k) dx ((fs ++ [f]).zip (xs ++ [y])))) (ds ++ [d]) (xs ++ [y]) (fa T1 (fa U fz)) :=
                RepL.append (repL_h' rl fun b u hb hu => kp _ b u (by omega) hu) ⟨y, [], U, fz, rfl, Rep.mono (.refl _) d y U (fun b u hb hu => kp _ b u (by omega) hu) r1, ⟨rfl, rfl⟩, rfl⟩
              have w2 := loc_own w1' l hS hu (.ins (cl k) dx ((fs ++ [f]).zip (xs ++ [y]))) (.obj true k (fs ++ [f]) (ds ++ [d])) (fa T1 (fa U fz)) fz ⟨a, dx, _, _, ev, upd_same, by simp [nl], rnew, rfl⟩ (fun b => by simp only [fa, fz]; omega)
              rw [fa_fz] at w2
              simp only [ej] at q
              exact q σ _ P1 _ w2 e1
          · cases ef
        · cases ef

/-! ### xs.extend(ys), the list at a slot -/
def extS (i : Nat) (g : GM) : GM := fun ρ => match ρ[i]? with
  | some (.lst true _) => (g ρ).bind fun r => match r.1, r.2[i]? with
    | .lst _ ys, some (.lst true ds) => if frzL ys = true ∧ ds.length + ys.length ≤ LIM then some (.non, r.2.set i (.lst true (ds ++ ys))) else none
    | _, _ => none
  | _ => none
theorem loc_v {c : LC} {P H : Hp} {S T : FP} {ρ : List D} {i : Nat} {d : D} {v : V} (w : Wd c E P S T σ H ρ) (h : ρ[i]? = some d) (hn : notGone d = true) (hv : σ[i]? = some (some v)) : ∃ Sd R, Loc c (vL i) P H σ ρ S v d Sd R := by
  obtain ⟨v', Sd, R, k1, k2, k3, k4⟩ := w.env.focus h hn
  rw [hv] at k1
  cases k1
  exact ⟨Sd, R, k3, k2, k4⟩
theorem g_ext (i : Nat) {x : Str} {px : Pos} (he : PE X e (tG ⟨X.K, cl⟩ E g)) (hN : X.N[i]? = some x := by rfl) (hv : Vis X.env.scope x := by first | exact Or.inl rfl | exact Or.inr (Or.inl rfl) | exact Or.inr (Or.inr rfl))
    (hd : (x == ("__debug__" : Str)) = false := by decide) (hcd : (x == ("__classdict__" : Str)) = false := by decide)
    (hbase : attributeBase (.Name x px) "extend" X.env (eval (.Name x px) X.env) = eval (.Name x px) X.env := by rfl)
    (hfew : ((backTo pos (starEach [e] X.env)).all (fun x => !x.1) && (backToKw pos (keywordEach [] X.env)).all (fun x => x.1.isSome)
      && decide ([e].length + ([] : List Keyword).length + (if ([] : List Keyword).isEmpty then 0 else 1) < 30)) = true := by rfl)
    (hline : (apos.endLine == pos.line) = true := by rfl) (hs : starEach [e] X.env = (false, eval e X.env) :: starEach [] X.env := by rfl) : PE X (.Call (.Attribute (.Name x px) "extend" apos) [e] [] pos) (tG ⟨X.K, cl⟩ E (extS i g)) := by
  refine PE_imp (pe_bm PySem.F.plainAttrs_list PySem.F.slot_list_extend PySem.F.type_list_extend mt_extend (pe_var hN hv hd hcd) (pa_cons he pa_nil hs) hbase hfew hline hs) fun σ H Q ⟨P, S, T, ρ, d, ρ', w, hm, q⟩ => ?_
  unfold extS at hm
  split at hm
  · rename_i ds0 hi
    cases eg : g ρ with
    | none => rw [eg] at hm; cases hm
    | some r =>
      obtain ⟨dy, ρ1⟩ := r
      rw [eg, Option.bind_some] at hm
      split at hm
      · rename_i o' ys ds h1 h2
        split at hm
        · rename_i hl
          cases hm
          obtain ⟨v, Sd0, R0, hv0, r0, _, _⟩ := w.env.focus hi rfl
          obtain ⟨a0, xs0, T0, ev0, h0, _⟩ := r0
          refine ⟨v, hv0, by rw [ev0]; exact .inl ⟨rfl, xs0, .inl (.inl h0)⟩, P, S, T, ρ, dy, ρ1, w, eg, fun z H1 P1 S1 U1 w1 ep r1 kT => ?_⟩
          replace h1 : dy = .lst o' ys := h1
          subst h1
          obtain ⟨Sd, R, l⟩ := loc_v w1 (show ρ1[i]? = some _ from h2) rfl hv0
          obtain ⟨a, xs, T1, ev, hh, rl, hf⟩ := l.rep
          have hS : ∀ b, Sd b = one a b + T1 b := fun b => by rw [hf]; rfl
          obtain ⟨p2, zs, ez, hz, rz⟩ := lst_heap0 w1.ph r1 hl.1
          refine ⟨a, p2, xs, zs, ev, by rw [ez], hh, hz, by rw [← rl.length, ← rz.length]; exact lim_le hl.2, ?_⟩
          have kp := fun o => keep_own w1 l hS o
          have hu : ∀ b, 0 < T1 b + U1 b → H1 b ≠ none := fun b hb => by
            by_cases hU : 0 < U1 b
            · exact w1.th b (by simp only [fa]; omega)
            · exact RepL.there ds xs T1 rl b (by omega)
          have rnew : RepL ⟨X.K, cl⟩ P1 (upd H1 a (.lst (xs ++ zs))) (ds ++ ys) (xs ++ zs) (fa T1 fz) :=
            RepL.append (repL_h' rl fun b u hb hu => kp _ b u (by omega) hu) (repL_h rz)
          have w2 := loc_own w1 l hS hu (.lst (xs ++ zs)) (.lst true (ds ++ ys)) (fa T1 fz) fz ⟨a, _, _, ev, upd_same, rnew, rfl⟩ (fun b => by simp only [fa, fz]; omega)
          exact q .non _ P1 _ fz w2 ep ⟨rfl, rfl⟩ fun b u hb hu => kp _ b u (by simp only [fa]; omega) (kT b u hb hu)
        · cases hm
      · cases hm
  · cases hm

/-! ### sep.join(xs) -/
def strsOf : List D → Option (List (List Nat))
  | [] => some []
  | .str s :: ds => (strsOf ds).map fun ss => s :: ss
  | _ :: _ => none
def joinL (sep : List Nat) : List (List Nat) → List Nat
  | [] => []
  | [s] => s
  | s :: ss => s ++ sep ++ joinL sep ss
def joinD : D → D → Option D
  | .str sep, .lst _ ds => (strsOf ds).bind fun ss => if (ss.map List.length).sum + ss.length * sep.length ≤ LIM then some (.str (joinL sep ss)) else none
  | _, _ => none
theorem strs_v {c : LC} {P H : Hp} : ∀ {ds : List D} {xs : List V} {U : FP} {ss : List (List Nat)}, strsOf ds = some ss → RepL c P H ds xs U → xs = (ss.map fun s => (⟨s.toArray⟩ : Str)).map V.str
  | [], xs, U, is, h, r => by cases h; exact r.1
  | .str i :: ds, xs, U, is, h, ⟨y, ys, T, T2, e1, r, rs, _⟩ => by
    unfold strsOf at h
    cases z : strsOf ds with
    | none => rw [z] at h; cases h
    | some js => rw [z] at h; cases h; rw [e1, r.1, strs_v z rs]; rfl
  | .gone :: _, _, _, _, h, _ | .non :: _, _, _, _, h, _ | .bl _ :: _, _, _, _, h, _ | .int _ :: _, _, _, _, h, _ | .scr _ :: _, _, _, _, h, _ | .kst _ :: _, _, _, _, h, _ | .tup _ :: _, _, _, _, h, _ | .lst .. :: _, _, _, _, h, _ | .dK .. :: _, _, _, _, h, _ | .dT .. :: _, _, _, _, h, _ | .obj .. :: _, _, _, _, h, _ => by simp [strsOf] at h
end
end LI
namespace LI
open PySem L2

section
variable {X : Cx} {cl : Nat → Addr} {E : En} {e a b o : Expr} {es : List Expr} {pos pos' p apos : Pos} {m mo : RM} {g : GM} {ms : AM} {n : Nat} {f nm : Str} {L : Lens} {σ : L2.St}
/-- a view of what is fixed, as a thing of one's own -/
def frM (m : RM) : RM := fun ρ => (m ρ).bind fun d => if frz d = true then some d else none
theorem f_fr (h : PE X e (tR ⟨X.K, cl⟩ E m)) : PE X e (tF ⟨X.K, cl⟩ E (frM m)) := PE_imp h fun σ H Q ⟨P, S, T, ρ, d, w, hm, q⟩ => by
  unfold frM at hm
  cases hd : m ρ with
  | none => rw [hd] at hm; cases hm
  | some d1 =>
    rw [hd, Option.bind_some] at hm
    split at hm
    · rename_i hf
      cases hm
      refine ⟨P, S, T, ρ, d, w, hd, fun v H' P' U g r => ?_⟩
      have z := Rep.frz0 d v U hf r
      subst z
      exact q v H' P' fz g r (fun _ => Nat.zero_le _) fun a z => by simp [fz] at z
    · cases hm

/-! ### sep.join(xs) -/
def joinD2 : D → D → Option D
  | .str sep, .lst _ ds => (strsOf ds).bind fun ss => if (ss.map List.length).sum + ss.length * sep.length ≤ LIM then some (.str (TL.joinL sep ss)) else none
  | _, _ => none
theorem f_join (ho : PE X o (tR ⟨X.K, cl⟩ E mo)) (he : PE X e (tR ⟨X.K, cl⟩ E m)) (hs : starEach [e] X.env = [(false, eval e X.env)] := by rfl) (hbase : attributeBase o "join" X.env (eval o X.env) = eval o X.env := by rfl) (hline : (apos.endLine == pos.line) = true := by rfl) :
    PE X (.Call (.Attribute o "join" apos) [e] [] pos) (tF ⟨X.K, cl⟩ E (m2 joinD2 mo m)) := PE_imp (pe_join ho he hs hbase hline) fun σ H Q ⟨P, S, T, ρ, d, w, hm, q⟩ => by
  obtain ⟨da, db, ea, eb, h⟩ := m2_split hm
  unfold joinD2 at h
  split at h
  · rename_i sep o' ds
    cases z : strsOf ds with
    | none => rw [z] at h; cases h
    | some ss =>
      rw [z, Option.bind_some] at h
      split at h
      · rename_i hl
        cases h
        refine ⟨P, S, T, ρ, _, w, ea, fun v H1 P1 U1 g1 r1 => ⟨⟨_, r1.1⟩, P1, S, T, ρ, _, w.grow g1, eb, fun y H2 P2 U2 g2 r2 => ?_⟩⟩
        obtain ⟨p, xs, T', ey, hh, rl, _⟩ := lst_heap g2.ph r2
        have hx := strs_v z rl
        subst hx
        refine ⟨_, p, ss.map SX.S, r1.1, by rw [ey], .inl (.inl (.inl hh)), ?_, ?_⟩
        · have e1 : ((ss.map SX.S).map fun x => x.length) = ss.map List.length := SX.lens ss
          rw [e1, List.length_map]
          have e2 : (⟨sep.toArray⟩ : Str).length = sep.length := str_len sep
          rw [e2]
          exact Nat.le_trans hl (by decide)
        · have e3 : Txt.join ⟨sep.toArray⟩ (ss.map SX.S) = ⟨(TL.joinL sep ss).toArray⟩ := SX.join_S sep ss
          rw [e3]
          exact (q.grow (g1.trans g2)).flat g2.ph ⟨rfl, rfl⟩
      · cases h
  · cases h
end

/-! ### the law -/
def spLaw (K : PySem.W.Frag) : Sp := fun vs H Q _ => ∃ (a : Addr) (ns : List Int), vs = [.ref a] ∧ SqL K H a (ns.map V.int) ∧ ns.length ≤ 63 ∧ (∀ z ∈ ns, Builtin.Int.intBits z ≤ 1048576) ∧ ∀ H', Q (.bl true) H'
theorem law_ok {P : Program} {w : World} {K : PySem.W.Frag} {mg : Str → Option Value} {base : Heap} {CX : CXT} {k : Nat} {f : Addr} {fd : FuncData} {ps : List Str} {F : FM} {cl : Nat → Addr} (G : FnOk P w K mg base CX k f fd ps (spD ⟨K, cl⟩ F))
    (h : ∀ ns : List Int, ns.length ≤ 63 → (∀ z ∈ ns, Builtin.Int.intBits z ≤ 1048576) → ∃ ds', F [.scr ns] = some (.bl true, ds')) : FnOk P w K mg base CX k f fd ps (spLaw K) :=
  G.imp fun vs H Q E ⟨a, ns, e, hs, hl, hb, q⟩ => by
    obtain ⟨ds', hF⟩ := h ns hl hb
    refine ⟨H, fz, [.scr ns], .bl true, ds', ⟨.ref a, [], fz, fz, e, ⟨a, rfl, hs, rfl⟩, ⟨rfl, rfl⟩, (fa_fz fz).symm⟩, .refl _, fun _ => Nat.zero_le _, fun a z => by simp [fz] at z, hF, fun v H' P' U S' st rd _ => ?_⟩
    rw [rd.1]
    exact q H'
end LI
namespace LI
open PySem L2

section
variable {X : Cx} {cl : Nat → Addr} {E : En} {e a b o : Expr} {es : List Expr} {pos pos' p apos : Pos} {m mo ma mb : RM} {g : GM} {ms : AM} {n : Nat} {nm x : Str} {L : Lens} {σ : L2.St} {CX : CXT} {k : Nat} {fa' : Addr} {fd : FuncData} {ps : List Str} {F : FM} {XE : XK}
/-! ### passing views: enough for an answer that is flat -/
def VQ (c : LC) (P H : Hp) (d : D) (Q : VK) : Prop := ∀ v H' P' U, Gr P H P' H' → Rep c H' H' d v U → Q v H'
def tV (c : LC) (E : En) (m : RM) : TE := fun σ H Q => ∃ P S T ρ d, Wd c E P S T σ H ρ ∧ m ρ = some d ∧ VQ c P H d Q
theorem v_r (h : PE X e (tR ⟨X.K, cl⟩ E m)) : PE X e (tV ⟨X.K, cl⟩ E m) := PE_imp h fun σ H Q ⟨P, S, T, ρ, d, w, hm, q⟩ => ⟨P, S, T, ρ, d, w, hm, fun v H' P' U g r => q v H' P' U g (Rep.mono g.ph d v U (fun _ _ _ h => h) r)⟩
theorem FQ.flatV {c : LC} {P H : Hp} {d : D} {Q : VK} (hp : Ex P H) (hd : isFlat d = true) (h : FQ c P H d Q) : FQ c H H d Q := fun v H' P' U g r _ _ =>
  h v H' P fz ⟨.refl _, g.h, hp.trans g.h, fun _ z => .inl z⟩ (flat_any (c := c) hd r) (fun _ => Nat.zero_le _) fun a z => by simp [fz] at z
/-- f gives flat things alone -/
def FlatOp (f : D → D → Option D) : Prop := ∀ a b d, f a b = some d → isFlat d = true
theorem op2_runW {r : R2} {f : D → D → Option D} (hf : Op2 ⟨X.K, cl⟩ r f) (hz : FlatOp f) {H : Hp} {Q : VK} (h : tF ⟨X.K, cl⟩ E (m2 f ma mb) σ H Q) : tOp r (tV ⟨X.K, cl⟩ E ma) (tV ⟨X.K, cl⟩ E mb) σ H Q := by
  obtain ⟨P, S, T, ρ, d, w, hm, q⟩ := h
  obtain ⟨da, db, ea, eb, hm⟩ := m2_split hm
  refine ⟨P, S, T, ρ, da, w, ea, fun x H1 P1 U1 g1 r1 => ⟨P1, S, T, ρ, db, w.grow g1, eb, fun y H2 P2 U2 g2 r2 => ?_⟩⟩
  exact hf H2 H2 (.refl _) _ _ _ _ _ _ _ hm (Rep.mono g2.h da x U1 (fun a o _ h => g2.h a o h) r1) r2 Q ((q.grow (g1.trans g2)).flatV g2.ph (hz _ _ _ hm))
theorem v_cmp {op : CmpOp} {r : R2} {f : D → D → Option D} (ho : OpR X (compareOp op) r) (hf : Op2 ⟨X.K, cl⟩ r f) (hz : FlatOp f) (ha : PE X a (tV ⟨X.K, cl⟩ E ma)) (hb : PE X b (tV ⟨X.K, cl⟩ E mb)) (hm : behindInMarks op b = false) : PE X (.Compare a [op] [b] pos) (tF ⟨X.K, cl⟩ E (m2 f ma mb)) :=
  PE_imp (pe_cmpR ho ha hb hm) fun _ _ _ h => op2_runW hf hz h
theorem tv_cmp {op : CmpOp} {r : R2} {f : D → D → Option D} (ho : OpR X (compareOp op) r) (hf : Op2 ⟨X.K, cl⟩ r f) (hz : FlatOp f) (ha : PE X a (tV ⟨X.K, cl⟩ E ma)) (hb : PE X b (tV ⟨X.K, cl⟩ E mb)) (hm : behindInMarks op b = false) : PT X (.Compare a [op] [b] pos) (tT ⟨X.K, cl⟩ E (bM (m2 f ma mb))) :=
  t_test (pt_cmpR ho ha hb hm) fun _ _ _ h => op2_runW hf hz h
theorem flat_eq : FlatOp eqD := fun a b d h => by
  unfold eqD at h
  cases z : eqB a b with
  | none => rw [z] at h; cases h
  | some k => rw [z] at h; cases h; rfl
theorem flat_ne : FlatOp neD := fun a b d h => by
  unfold neD at h
  cases z : eqB a b with
  | none => rw [z] at h; cases h
  | some k => rw [z] at h; cases h; rfl
/-- a call whose answer is looked at alone -/
def callVM (F : FM) (ms : AM) : RM := fun ρ => (ms ρ).bind fun ds => (F (iceL ds)).map (·.1)
theorem spD_viewV {c : LC} {F : FM} {P H : Hp} {ds : List D} {vs : List V} {U : FP} {d : D} {ds' : List D} {Q : VK} {E : XK} (e : Ex P H) (r : RepL c P H ds vs U) (hf : F (iceL ds) = some (d, ds')) (q : VQ c P H d Q) : spD c F vs H Q E := by
  refine ⟨coldP U P H, fz, iceL ds, d, ds', RepL.ice (coldP_p e) ds vs U (fun a o h1 h2 => by unfold coldP; rw [if_pos h1]; exact h2) r, coldP_h e, fun _ => Nat.zero_le _, fun a h => by simp [fz] at h, hf, fun v H' P' U2 S' st rd rs => ?_⟩
  have hH : Ex H H' := fun a o h => st.fr a o rfl h
  exact q v H' P U2 ⟨.refl _, hH, e.trans hH, fun a h => .inl h⟩ (Rep.mono st.ph d v U2 (fun _ _ _ h => h) rd)
theorem callV_split {ρ : List D} {d : D} (h : callVM F ms ρ = some d) : ∃ ds ds', ms ρ = some ds ∧ F (iceL ds) = some (d, ds') := by
  unfold callVM at h
  cases e1 : ms ρ with
  | none => rw [e1] at h; cases h
  | some ds =>
    rw [e1, Option.bind_some] at h
    cases e2 : F (iceL ds) with
    | none => rw [e2] at h; cases h
    | some r => rw [e2] at h; cases h; exact ⟨ds, r.2, rfl, e2⟩
theorem v_call (G : FnOk X.prog X.w X.K X.mg X.base CX k fa' fd ps (spD ⟨X.K, cl⟩ F)) (hr : Room k X.A) (hg : Gl X x) (hm : X.mg x = some (.ref fa')) (hk : PySem.W.keepIn X.K (.ref fa') = true) (hb : Binds X.K fd ps []) (hx : Passes CX X XE)
    (ha : PA X (e :: es) (tAR ⟨X.K, cl⟩ E ms)) (hdb : (x == ("__debug__" : Str)) = false := by decide) (he : starEach (e :: es) X.env = (false, eval e X.env) :: starEach es X.env := by rfl) (hpl : (backTo pos (starEach es X.env)).any (·.1) = false := by rfl) :
    PE X (.Call (.Name x p) (e :: es) [] pos) (tV ⟨X.K, cl⟩ E (callVM F ms)) := PE_imp (pe_call G hr hg hm hk hb .nil hx ha hdb he hpl) fun σ H Q ⟨P, S, T, ρ, d, w, h, q⟩ => by
  obtain ⟨ds, ds', e1, e2⟩ := callV_split h
  refine ⟨P, S, T, ρ, ds, w, e1, fun vs H1 P1 U1 g1 r1 => ?_⟩
  show spD ⟨X.K, cl⟩ F (vs ++ []) H1 Q XE
  rw [List.append_nil]
  exact spD_viewV g1.ph r1 e2 fun v H' P' U g r => q v H' P' U (g1.trans g) r
/-- a module's constant -/
theorem f_gl {v : V} (d : D) (h : ∃ u, X.mg x = some u ∧ RelV v u) (hr : ∀ P H, Ex P H → Rep ⟨X.K, cl⟩ P H d v fz) (hg : Gl X x := by rfl) (hd : (x == ("__debug__" : Str)) = false := by decide) : PE X (.Name x pos) (tF ⟨X.K, cl⟩ E (kM d)) := by
  obtain ⟨u, h1, h2⟩ := h
  exact f_glob d hg h1 h2 hr hd
theorem f_glS (s : List Nat) (h : ∃ u, X.mg x = some u ∧ RelV (.str ⟨s.toArray⟩) u) (hg : Gl X x := by rfl) (hd : (x == ("__debug__" : Str)) = false := by decide) : PE X (.Name x pos) (tF ⟨X.K, cl⟩ E (kM (.str s))) := f_gl (.str s) h (fun _ _ _ => ⟨rfl, rfl⟩) hg hd
theorem f_glI (i : Int) (h : ∃ u, X.mg x = some u ∧ RelV (.int i) u) (hg : Gl X x := by rfl) (hd : (x == ("__debug__" : Str)) = false := by decide) : PE X (.Name x pos) (tF ⟨X.K, cl⟩ E (kM (.int i))) := f_gl (.int i) h (fun _ _ _ => ⟨rfl, rfl⟩) hg hd
theorem f_isi' {ty : String} {b0 : Expr} (ha : PE X a (tR ⟨X.K, cl⟩ E ma)) (hb : PE X b0 (tC (.ty ty))) (hm : X.mg "isinstance" = none) (hg : Gl X "isinstance" := by rfl)
    (hs1 : starEach [a, b0] X.env = (false, eval a X.env) :: starEach [b0] X.env := by rfl) (hs2 : starEach [b0] X.env = (false, eval b0 X.env) :: starEach [] X.env := by rfl) (hpl : (backTo pos (starEach [b0] X.env)).any (·.1) = false := by rfl) : PE X (.Call (.Name "isinstance" p) [a, b0] [] pos) (tF ⟨X.K, cl⟩ E (isiM ty ma)) :=
  f_isi hg hm (by decide +kernel) ha hb (by decide) (by decide) hs1 hs2 hpl
end
end LI
namespace LI
open PySem L2

/-! ### out of a place -/
def mvM (L : Lens) : GM := fun ρ => (L.get ρ).bind fun d => some (d, L.put ρ .gone)
def iceAt (i : Nat) (ρ : List D) : List D := match ρ[i]? with
  | some d => ρ.set i (ice d)
  | none => ρ
def iceM (i : Nat) (m : SM) : SM := fun ρ => (m ρ).map fun r => match r.1 with
  | .nx => (.nx, iceAt i r.2)
  | f => (f, r.2)
section
variable {X : Cx} {cl : Nat → Addr} {E : En} {e a b tg : Expr} {pos : Pos} {L : Lens} {m ma mb : RM}
theorem g_mv (h : PE X e (tPl ⟨X.K, cl⟩ E L)) : PE X e (tG ⟨X.K, cl⟩ E (mvM L)) := PE_imp h fun σ H Q ⟨P, S, T, ρ, d, ρ', w, hm, q⟩ => by
  unfold mvM at hm
  cases hd : L.get ρ with
  | none => rw [hd] at hm; cases hm
  | some d1 =>
    rw [hd] at hm
    cases hm
    refine ⟨P, S, T, ρ, d, w, hd, fun v Sd R l => ?_⟩
    have henv := l.put P H .gone fz (.refl P) (fun _ _ _ h => h) rfl
    refine q v H P (fa fz R) Sd ?_ (.refl P) l.rep (fun _ _ _ h => h)
    have hs := l.sum
    refine ⟨henv, fun x => ?_, fun x hx => ?_, fun x hx => ?_, w.ph, w.p0, w.fr, w.np, fun x hx => ?_, w.kp⟩
    · have := w.le x; have := hs x; simp only [fa, fz] at *; omega
    · exact w.out x (by have := hs x; simp only [fa, fz] at *; omega)
    · by_cases z : 0 < T x
      · exact w.th x z
      · exact Rep.there d v Sd l.rep x (by simp only [fa] at hx; omega)
    · exact w.ns x (by have := hs x; simp only [fa, fz] at *; omega)
theorem s_doc {x : Str} {j} {p p' : Pos} : PS X (.Expr (.Constant (.str x) j p) p') (tS ⟨X.K, cl⟩ E skipM) := PS_imp ps_doc fun D σ H ⟨P, S, ρ, fl, ρ', w, hm, q⟩ => by
  cases hm
  exact q σ H P S w (.refl _)
theorem RepE.iceAt {c : LC} {P H : Hp} : ∀ {ρ : List D} {σ : St} {S : FP} (i : Nat), RepE c P H ρ σ S → ∃ (U R : FP), (∀ a, S a = U a + R a) ∧ (∀ a, 0 < U a → H a ≠ none) ∧
    ∀ (P2 H2 : Hp), Ex P P2 → (∀ a o, 0 < U a → H a = some o → P2 a = some o) → (∀ a o, 0 < R a → H a = some o → H2 a = some o) → RepE c P2 H2 (LI.iceAt i ρ) σ R
  | [], [], S, i, h => ⟨fz, S, fun a => by simp [fz], fun a p => by simp [fz] at p, fun P2 H2 _ _ _ => h⟩
  | d0 :: ρ, v0 :: σ, S, 0, ⟨T, U, r, rs, f⟩ => ⟨T, U, fun a => by rw [f]; rfl, r.there, fun P2 H2 e k1 k2 => by
      refine ⟨fz, U, ?_, rs.mono e ρ σ U k2, by funext a; simp [fa, fz]⟩
      cases v0 with
      | none => obtain ⟨rfl, _⟩ := r; exact ⟨rfl, rfl⟩
      | some v => exact Rep.ice e d0 v T k1 r⟩
  | d0 :: ρ, v0 :: σ, S, i + 1, ⟨T, T2, r, rs, f⟩ => by
    obtain ⟨U, R, h1, h0, h2⟩ := RepE.iceAt i rs
    refine ⟨U, fa T R, fun a => by have := h1 a; rw [f]; simp only [fa]; omega, h0, fun P2 H2 e k1 k2 => ?_⟩
    have := h2 P2 H2 e k1 (fun a o z1 z2 => k2 a o (by simp only [fa]; omega) z2)
    have e2 : LI.iceAt (i + 1) (d0 :: ρ) = d0 :: LI.iceAt i ρ := by
      simp only [LI.iceAt, List.getElem?_cons_succ]
      cases ρ[i]? <;> rfl
    rw [e2]
    exact ⟨T, R, RepO.mono e (fun a o z1 z2 => k2 a o (by simp only [fa]; omega) z2) r, this, rfl⟩
  | [], _ :: _, _, _, h => h.elim
  | _ :: _, [], _, _, h => h.elim
theorem Wd.iceAt {c : LC} {P H : Hp} {S T : FP} {σ : St} {ρ : List D} (w : Wd c E P S T σ H ρ) (i : Nat) : ∃ P' S', Wd c E P' S' T σ H (LI.iceAt i ρ) ∧ Ex P P' := by
  obtain ⟨U, R, h1, h0, h2⟩ := RepE.iceAt i w.env
  have hP : ∀ a, 0 < U a → P a = none := fun a z => w.out a (by have := h1 a; omega)
  have ex : Ex P (fun a => if 0 < U a then H a else P a) := fun a o z => by
    by_cases hu : 0 < U a
    · rw [hP a hu] at z; cases z
    · simp [hu, z]
  refine ⟨fun a => if 0 < U a then H a else P a, R, ⟨h2 _ H ex (fun a o z1 z2 => by simp [z1, z2]) (fun _ _ _ h => h), fun a => ?_, fun a z => ?_, w.th, fun a o z => ?_, w.p0.trans ex, w.fr, fun a z => ?_, fun a z => w.ns a (by have := h1 a; omega), w.kp⟩, ex⟩
  · have := w.le a; have := h1 a; omega
  · have l := w.le a; have s := h1 a
    have hu : ¬ 0 < U a := by omega
    simp only [hu, if_false]
    exact w.out a (by omega)
  · by_cases hu : 0 < U a
    · simpa [hu] using z
    · exact w.ph a o (by simpa [hu] using z)
  · by_cases hu : 0 < U a
    · exact .inr (w.ns a (by have := h1 a; omega))
    · exact w.np a (by simpa [hu] using z)
theorem s_seqI (i : Nat) {st : Stmt} {m : SM} (h : PS X st (tS ⟨X.K, cl⟩ E m)) : PS X st (tS ⟨X.K, cl⟩ E (iceM i m)) := PS_imp h fun D σ H ⟨P, S, ρ, fl, ρ', w, hm, q⟩ => by
  unfold iceM at hm
  cases eg : m ρ with
  | none => rw [eg] at hm; cases hm
  | some r =>
    obtain ⟨f1, ρ1⟩ := r
    rw [eg] at hm
    refine ⟨P, S, ρ, f1, ρ1, w, eg, ?_⟩
    cases f1 with
    | nx =>
      cases hm
      intro σ' H' P' S' w' x
      obtain ⟨P2, S2, w2, e2⟩ := w'.iceAt i
      exact q σ' H' P2 S2 w2 (x.trans e2)
    | rt d => cases hm; exact q
    | bk => cases hm; exact q
    | ct => cases hm; exact q

/-! ### more to walk -/
def enumFrom (n : Nat) : List D → List D
  | [] => []
  | d :: ds => .tup [.int (n : Int), d] :: enumFrom (n + 1) ds
def lstD : D → Option (List D)
  | .lst false ds => if frzL ds = true then some ds else none
  | .scr ns => some (ns.map .int)
  | _ => none
def enumM (m : RM) : AM := fun ρ => (m ρ).bind fun d => (lstD d).map (enumFrom 0)
def zipD : List D → List D → List D
  | a :: as, b :: bs => .tup [a, b] :: zipD as bs
  | _, _ => []
def zipM (m1 m2 : RM) : AM := fun ρ => (m1 ρ).bind fun d1 => (m2 ρ).bind fun d2 => (lstD d1).bind fun a => (lstD d2).map fun b => zipD a b
def seqD : D → Option (List D)
  | .tup ds => if frzL ds = true then some ds else none
  | d => lstD d
def revM (m : RM) : AM := fun ρ => (m ρ).bind fun d => (lstD d).map List.reverse
theorem enumFrom_get : ∀ (ds : List D) (n i : Nat) (d : D), ds[i]? = some d → (enumFrom n ds)[i]? = some (.tup [.int ((n + i : Nat) : Int), d])
  | [], n, i, d, h => by simp at h
  | d0 :: ds, n, 0, d, h => by simp at h; subst h; rfl
  | d0 :: ds, n, i + 1, d, h => by
    have := enumFrom_get ds (n + 1) i d (by simpa using h)
    simp only [enumFrom, List.getElem?_cons_succ, this]
    congr 4; omega
theorem enumFrom_len : ∀ (ds : List D) (n : Nat), (enumFrom n ds).length = ds.length
  | [], n => rfl
  | d :: ds, n => by simp [enumFrom, enumFrom_len ds]
theorem zipD_get : ∀ (as bs : List D) (i : Nat) (a b : D), as[i]? = some a → bs[i]? = some b → (zipD as bs)[i]? = some (.tup [a, b])
  | [], bs, i, a, b, h, _ => by simp at h
  | a0 :: as, [], i, a, b, _, h => by simp at h
  | a0 :: as, b0 :: bs, 0, a, b, h1, h2 => by simp at h1 h2; subst h1; subst h2; rfl
  | a0 :: as, b0 :: bs, i + 1, a, b, h1, h2 => by
    simpa [zipD] using zipD_get as bs i a b (by simpa using h1) (by simpa using h2)
theorem zipD_len : ∀ (as bs : List D), (zipD as bs).length = min as.length bs.length
  | [], bs => by simp [zipD]
  | a :: as, [] => by simp [zipD]
  | a :: as, b :: bs => by simp [zipD, zipD_len as bs]
/-- a list that is fixed -/
theorem lst_sq {c : LC} {P H : Hp} {d : D} {ds : List D} {v : V} {U : FP} (h : lstD d = some ds) (r : Rep c P H d v U) : ∃ p xs, v = .ref p ∧ SqL c.K P p xs ∧ ∀ H', RepL c P H' ds xs fz := by
  unfold lstD at h
  split at h
  · split at h
    · rename_i hf
      cases h
      obtain ⟨p, xs, e1, hp, rl⟩ := r
      have z := RepL.frz0 _ xs _ hf rl
      subst z
      exact ⟨p, xs, e1, .inl (.inl hp), fun _ => repL_h rl⟩
    · cases h
  · cases h
    obtain ⟨p, e1, hp, _⟩ := r
    exact ⟨p, _, e1, hp, fun _ => repL_ints _⟩
  · cases h
theorem pair_gr {c : LC} {P H H3 : Hp} {T : Addr} {x y : V} {d1 d2 : D} (ph : Ex P H) (hT : H T = none) (e : H3 = upd H T (.tup [x, y])) (r1 : Rep c P H d1 x fz) (r2 : Rep c P H d2 y fz) :
    ∃ P3, Gr P H P3 H3 ∧ Rep c P3 H3 (.tup [d1, d2]) (.ref T) fz := by
  subst e
  have hP := none_of ph hT
  have eP : Ex P (upd P T (.tup [x, y])) := fun a o z => by rw [upd_ne (ne_of_none z hP)]; exact z
  refine ⟨upd P T (.tup [x, y]), ⟨eP, fun a o z => by rw [upd_ne (ne_of_none z hT)]; exact z, fun a o z => ?_, fun a z => ?_⟩, T, [x, y], rfl, .inl (.inl upd_same), x, [y], fz, fz, rfl, ?_, ⟨y, [], fz, fz, rfl, ?_, ⟨rfl, rfl⟩, (fa_fz fz).symm⟩, (fa_fz fz).symm⟩
  · by_cases q : a = T
    · subst q; rw [upd_same] at z ⊢; exact z
    · rw [upd_ne q] at z ⊢; exact ph a o z
  · by_cases q : a = T
    · subst q; exact .inr hT
    · rw [upd_ne q] at z; exact .inl z
  · exact Rep.mono eP d1 x fz (fun a o z _ => by simp [fz] at z) r1
  · exact Rep.mono eP d2 y fz (fun a o z _ => by simp [fz] at z) r2
theorem rep_ph {c : LC} {P P2 H H2 : Hp} {d : D} {x : V} (e : Ex P P2) (r : Rep c P H d x fz) : Rep c P2 H2 d x fz := Rep.mono e d x fz (fun a o z _ => by simp [fz] at z) r
theorem i_enum {elts : List Expr} {kk : Nat} {p tpos : Pos} (hg : Gl X "enumerate") (hm : X.mg "enumerate" = none) (h : PE X e (tR ⟨X.K, cl⟩ E m)) (hs : starEach [e] X.env = (false, eval e X.env) :: starEach [] X.env := by rfl) :
    PI X (.Tuple elts kk tpos) (.Call (.Name "enumerate" p) [e] [] pos) (tI ⟨X.K, cl⟩ E (enumM m)) := PI_imp (pi_enum hg hm (a_cons h a_nil hs) hs) fun σ H R ⟨P, S, T, ρ, ds, w, hm, q⟩ => by
  unfold enumM at hm
  cases ea : m ρ with
  | none => rw [ea] at hm; cases hm
  | some d =>
    rw [ea, Option.bind_some] at hm
    cases el : lstD d with
    | none => rw [el] at hm; cases hm
    | some es =>
      rw [el] at hm
      cases hm
      refine ⟨P, S, T, ρ, [d], w, by simp [consM, nilM, ea], fun vs H1 P1 U1 g1 ⟨y, ys, T1, T2, e1, r1, r2, f⟩ => ?_⟩
      obtain ⟨p, xs, e2, hp, rl⟩ := lst_sq el r1
      refine ⟨p, xs, by rw [e1, e2, r2.1], sql_mono g1.ph hp, q _ H1 P1 g1 ⟨_, _, by rw [enumFrom_len, (rl H1).length]; exact walk_enum (xs := xs), fun P2 H2 e1 e2 => sql_mono e2 (sql_mono e1 hp), fun i P2 H2 x H3 e1 e2 hi y => ?_⟩⟩
      obtain ⟨T, x1, y1, h1, h2, h3, h4, h5⟩ := y
      cases h4
      obtain ⟨d1, k1, k2⟩ := rep_get0 (rl H2) h5
      obtain ⟨P3, g3, r3⟩ := pair_gr (c := ⟨X.K, cl⟩) (d1 := .int ((0 + i : Nat) : Int)) e2 h2 h3 ⟨by simp, rfl⟩ (rep_ph (H2 := H2) e1 k2)
      exact ⟨P3, _, g3, enumFrom_get es 0 i d1 k1, h1 ▸ r3⟩
theorem i_zip {e2 : Expr} {m2 : RM} {elts : List Expr} {kk : Nat} {p tpos : Pos} (hg : Gl X "zip") (hm : X.mg "zip" = none) (h : PE X e (tR ⟨X.K, cl⟩ E m)) (h2 : PE X e2 (tR ⟨X.K, cl⟩ E m2))
    (hs : starEach [e, e2] X.env = (false, eval e X.env) :: starEach [e2] X.env := by rfl) (hpl : (backTo pos (starEach [e2] X.env)).any (·.1) = false := by rfl) (hs2 : starEach [e2] X.env = (false, eval e2 X.env) :: starEach [] X.env := by rfl) :
    PI X (.Tuple elts kk tpos) (.Call (.Name "zip" p) [e, e2] [] pos) (tI ⟨X.K, cl⟩ E (zipM m m2)) := PI_imp (pi_zip hg hm (a_cons h (a_cons h2 a_nil hs2) hs) hs hpl) fun σ H R ⟨P, S, T, ρ, ds, w, hm, q⟩ => by
  unfold zipM at hm
  cases ea : m ρ with
  | none => rw [ea] at hm; cases hm
  | some d =>
    cases eb : m2 ρ with
    | none => rw [ea, eb] at hm; cases hm
    | some d' =>
      rw [ea, eb, Option.bind_some, Option.bind_some] at hm
      cases el : lstD d with
      | none => rw [el] at hm; cases hm
      | some es =>
        cases el2 : lstD d' with
        | none => rw [el, el2] at hm; cases hm
        | some es2 =>
          rw [el, el2] at hm
          cases hm
          refine ⟨P, S, T, ρ, [d, d'], w, by simp [consM, nilM, ea, eb], fun vs H1 P1 U1 g1 ⟨y, ys, T1, T2, e1, r1, ⟨y', ys', T3, T4, e1', r1', r2, f'⟩, f⟩ => ?_⟩
          obtain ⟨p, xs, e2, hp, rl⟩ := lst_sq el r1
          obtain ⟨p', xs', e2', hp', rl'⟩ := lst_sq el2 r1'
          refine ⟨p, p', xs, xs', by rw [e1, e2, e1', e2', r2.1], sql_mono g1.ph hp, sql_mono g1.ph hp', q _ H1 P1 g1 ⟨_, _, walk_zip (xs := xs) (ys := xs') (by rw [zipD_len, (rl H1).length, (rl' H1).length]), fun P2 H2 e1 e2 => ⟨sql_mono e2 (sql_mono e1 hp), sql_mono e2 (sql_mono e1 hp')⟩, fun i P2 H2 x H3 e1 e2 hi y => ?_⟩⟩
          obtain ⟨T, x1, y1, h1, h2, h3, h4, h5⟩ := y
          obtain ⟨d1, k1, k2⟩ := rep_get0 (rl H2) h4
          obtain ⟨d2, k1', k2'⟩ := rep_get0 (rl' H2) h5
          obtain ⟨P3, g3, r3⟩ := pair_gr (c := ⟨X.K, cl⟩) e2 h2 h3 (rep_ph (H2 := H2) e1 k2) (rep_ph (H2 := H2) e1 k2')
          exact ⟨P3, _, g3, zipD_get es es2 i d1 d2 k1 k1', h1 ▸ r3⟩
theorem i_rev {p : Pos} (hg : Gl X "reversed") (hm : X.mg "reversed" = none) (h : PE X e (tR ⟨X.K, cl⟩ E m)) (hs : starEach [e] X.env = (false, eval e X.env) :: starEach [] X.env := by rfl) :
    PI X tg (.Call (.Name "reversed" p) [e] [] pos) (tI ⟨X.K, cl⟩ E (revM m)) := PI_imp (pi_reversed hg hm (a_cons h a_nil hs) hs) fun σ H R ⟨P, S, T, ρ, ds, w, hm, q⟩ => by
  unfold revM at hm
  cases ea : m ρ with
  | none => rw [ea] at hm; cases hm
  | some d =>
    rw [ea, Option.bind_some] at hm
    cases el : lstD d with
    | none => rw [el] at hm; cases hm
    | some es =>
      rw [el] at hm
      cases hm
      refine ⟨P, S, T, ρ, [d], w, by simp [consM, nilM, ea], fun vs H1 P1 U1 g1 ⟨y, ys, T1, T2, e1, r1, r2, f⟩ => ?_⟩
      obtain ⟨p, xs, e2, hp, rl⟩ := lst_sq el r1
      refine ⟨p, xs, by rw [e1, e2, r2.1], sql_mono g1.ph hp, q _ H1 P1 g1 ⟨_, _, by rw [List.length_reverse, (rl H1).length]; exact walk_rev (xs := xs), fun P2 H2 e1 e2 => sql_mono e2 (sql_mono e1 hp), fun i P2 H2 x H3 e1 e2 hi y => ?_⟩⟩
      obtain ⟨h1, h2⟩ := y
      subst h1
      rw [List.length_reverse] at hi
      obtain ⟨d1, k1, k2⟩ := rep_get0 (rl H3) h2
      refine ⟨P2, d1, .refl e2, ?_, rep_ph e1 k2⟩
      rw [List.getElem?_reverse hi, (rl H3).length]
      exact k1
end
/-! ### comprehensions over what is one's own -/
def IterV (c : LC) (P H : Hp) (J : It) (ds : List D) : Prop := ∃ (G : Hp → Prop) (Y : Nat → Hp → V → Hp → Prop), Walk J ds.length G Y ∧ (∀ P2 H2, Gr P H P2 H2 → G H2) ∧
  ∀ i P2 H2 x H3, Gr P H P2 H2 → i < ds.length → Y i H2 x H3 → ∃ P3 d, Gr P2 H2 P3 H3 ∧ ds[i]? = some d ∧ Rep c P3 H3 d x fz
def tIV (c : LC) (E : En) (m : AM) : TI := fun σ H R => ∃ P S T ρ ds, Wd c E P S T σ H ρ ∧ m ρ = some ds ∧ ∀ J H' P', Gr P H P' H' → IterV c P' H' J ds → R J H'
def itemsV : D → Option (List D)
  | .lst _ ds => if frzL ds = true then some ds else none
  | d => itemsD d
def itV (m : RM) : AM := fun ρ => (m ρ).bind itemsV
section
variable {X : Cx} {cl : Nat → Addr} {E : En} {e a b tg : Expr} {pos : Pos} {m ma mb : RM}
theorem i_up {ms : AM} (h : PI X tg e (tI ⟨X.K, cl⟩ E ms)) : PI X tg e (tIV ⟨X.K, cl⟩ E ms) := PI_imp h fun σ H R ⟨P, S, T, ρ, ds, w, hm, q⟩ =>
  ⟨P, S, T, ρ, ds, w, hm, fun J H1 P1 g1 ⟨G, Y, wk, hG, hY⟩ => q J H1 P1 g1 ⟨G, Y, wk, fun P2 H2 g2 => hG P2 H2 g2.p g2.ph, fun i P2 H2 x H3 g2 hi y => hY i P2 H2 x H3 g2.p g2.ph hi y⟩⟩
theorem PI_or' {t u : TI} (h : PI X tg e t) (k : PI X tg e u) : PI X tg e (fun σ H Q => t σ H Q ∨ u σ H Q) := PI_or h k
theorem i_seqV (h : PE X e (tR ⟨X.K, cl⟩ E m)) : PI X tg e (tIV ⟨X.K, cl⟩ E (itV m)) := by
  refine PI_imp (PI_or (pi_list h) (i_up (i_seq h))) fun σ H R ⟨P, S, T, ρ, ds, w, hm, q⟩ => ?_
  unfold itV at hm
  cases ea : m ρ with
  | none => rw [ea] at hm; cases hm
  | some d =>
    rw [ea] at hm
    replace hm : itemsV d = some ds := hm
    cases d with
    | lst o es =>
      replace hm : (if frzL es = true then some es else none) = some ds := hm
      split at hm
      · rename_i hf
        cases hm
        refine .inl ⟨P, S, T, ρ, _, w, ea, fun v H1 P1 U1 g1 r1 => ?_⟩
        obtain ⟨p, xs, T', e1, hp, rl, _⟩ := lst_heap g1.ph r1
        have z := RepL.frz0 _ xs _ hf rl
        subst z
        refine ⟨p, e1, ⟨xs, .inl (.inl hp)⟩, q _ H1 P1 g1 ⟨_, _, by rw [rl.length]; exact walk_list (K := X.K) (a := p) (xs := xs), fun P2 H2 g2 => Or.inl (Or.inl (g2.h _ _ hp)), fun i P2 H2 x H3 g2 hi y => ?_⟩⟩
        obtain ⟨rfl, hx⟩ := y
        obtain ⟨d, h1, h2⟩ := rep_get0 (repL_h (H' := H3) rl) hx
        exact ⟨P2, d, .refl g2.ph, h1, Rep.mono g2.p d x fz (fun a o z _ => by simp [fz] at z) h2⟩
      · cases hm
    | _ => exact .inr ⟨P, S, T, ρ, ds, w, by unfold itM; rw [ea]; exact hm, q⟩
theorem lcV_run {c : LC} {vs tl : List Nat} {f : TgM} {mc : BM} {me : RM} {ms : AM} (ht : ∀ j ∈ tl, j ∈ vs) (hk : ∀ j ∈ vs, E.kp[j]? ≠ some true) {σ : St} {H : Hp} {Q : VK} (h : tF c E (compM vs f mc me ms) σ H Q) :
    tLc (tIV c E ms) (tPG c E tl f) (tTs c E mc) (tR c E me) vs σ H Q := by
  obtain ⟨P, S, T, ρ, d, w, hm, q⟩ := h
  unfold compM at hm
  cases es : ms ρ with
  | none => rw [es] at hm; cases hm
  | some ds =>
    rw [es, Option.bind_some] at hm
    split at hm
    · rename_i hlim
      cases ec : compL f mc me (goneAt ρ vs) ds with
      | none => rw [ec] at hm; cases hm
      | some ys =>
        rw [ec] at hm
        cases hm
        refine ⟨P, S, T, ρ, ds, w, es, fun J H1 P1 g1 io => ?_⟩
        intro Dl hD
        obtain ⟨G, Y, wk, hG, hY⟩ := io
        have hP1 : P1 Dl = none := none_of g1.ph hD
        -- the invariant
        refine lc_it wk (fun i Hh => ∃ P2 zs acc, compL f mc me (goneAt ρ vs) (ds.take i) = some zs ∧ Gr P1 H1 P2 Hh ∧ P2 Dl = none ∧ Hh Dl = some (.lst acc) ∧ RepL c P2 Hh zs acc fz) ?_ ?_ ?_ ?_
        · exact ⟨P1, [], [], rfl, ⟨.refl _, ex_new hD, g1.ph.trans (ex_new hD), fun a z => .inl z⟩, hP1, upd_same, rfl, rfl⟩
        · rintro i Hh hi ⟨P2, zs, acc, h1, g2, _, _, _⟩
          exact hG P2 Hh g2
        · rintro i x Hh H3 hi ⟨P2, zs, acc, h1, g2, hD2, hDl, rl⟩ y
          obtain ⟨P3, d, g3, hd, rd⟩ := hY i P2 Hh x H3 g2 hi y
          obtain ⟨zs', ρ1, k, t1, t2, t3, t4, t5⟩ := compL_turn ec hd
          rw [h1] at t1
          cases t1
          obtain ⟨S3, w3⟩ := (((w.grow g1).grow g2).grow g3).wipe vs hk
          have w3' : Wd c E P3 S3 (fa T fz) (L2.wipe σ vs) H3 (goneAt ρ vs) := by rw [fa_fz]; exact w3
          have hD3 : P3 Dl = none := by
            cases z : P3 Dl with
            | none => rfl
            | some o =>
              rcases g3.new Dl (by rw [z]; simp) with q' | q'
              · exact absurd hD2 q'
              · rw [hDl] at q'; cases q'
          refine ⟨P3, S3, T, fz, _, d, ρ1, w3', rd, t2, fun σ' S' w4 l4 k4 => ⟨?_, P3, S', T, ρ1, k, w4, t3, fun H4 P4 g4 => ?_⟩⟩
          · rw [wipe_eq (vs := vs) l4 fun j hj => k4 j fun z => hj (ht j z)]
            exact wipe_wipe σ vs
          · have hD4 : P4 Dl = none := by
              cases z : P4 Dl with
              | none => rfl
              | some o =>
                rcases g4.new Dl (by rw [z]; simp) with q' | q'
                · exact absurd hD3 q'
                · rw [g3.h _ _ hDl] at q'; cases q'
            cases k with
            | true =>
              obtain ⟨y', e1, e2, e3⟩ := t4 rfl
              refine iteT ⟨P4, S', T, ρ1, y', w4.grow g4, e1, fun v H5 P5 U5 g5 r5 => ?_⟩
              have hU := Rep.frz0 y' v U5 e2 r5
              subst hU
              have hD5 : P5 Dl = none := by
                cases z : P5 Dl with
                | none => rfl
                | some o =>
                  rcases g5.new Dl (by rw [z]; simp) with q' | q'
                  · exact absurd hD4 q'
                  · rw [g4.h _ _ (g3.h _ _ hDl)] at q'; cases q'
              have gg := ((g2.trans g3).trans g4).trans g5
              have hDl5 : H5 Dl = some (.lst acc) := g5.h _ _ (g4.h _ _ (g3.h _ _ hDl))
              refine ⟨acc, hDl5, ?_, P5, zs ++ [y'], acc ++ [v], e3, ⟨gg.p, fun a o z => ?_, fun a o z => ?_, gg.new⟩, hD5, upd_same, ?_⟩
              · have h2 := compL_len h1
                have h3 := rl.length
                have : zs.length ≤ ds.length := Nat.le_trans h2 (by rw [List.length_take]; omega)
                have : (zs ++ [y']).length ≤ (ds.take (i + 1)).length := compL_len e3
                rw [List.length_append, List.length_take] at this
                have e4 : acc.length < LIM := by
                  simp only [List.length_cons, List.length_nil] at this
                  omega
                exact lim_lt e4
              · by_cases z2 : a = Dl
                · subst z2; rw [hD] at z; cases z
                · rw [upd_ne z2]; exact gg.h a o z
              · by_cases z2 : a = Dl
                · subst z2; rw [hD5] at z; cases z
                · rw [upd_ne z2]; exact g5.ph a o z
              · have r6 := RepL.append (repL_h (H' := upd H5 Dl (.lst (acc ++ [v]))) (((rl.gr g3).gr g4).gr g5)) (show RepL c P5 (upd H5 Dl (.lst (acc ++ [v]))) [y'] [v] fz from ⟨v, [], fz, fz, rfl, Rep.mono (.refl _) y' v fz (fun a o z _ => by simp [fz] at z) r5, ⟨rfl, rfl⟩, (fa_fz fz).symm⟩)
                rwa [fa_fz] at r6
            | false =>
              refine iteF ⟨P4, zs, acc, t5 rfl, (g2.trans g3).trans g4, hD4, g4.h _ _ (g3.h _ _ hDl), (rl.gr g3).gr g4⟩
        · rintro Hh ⟨P2, zs, acc, h1, g2, hD2, hDl, rl⟩
          rw [List.take_length, ec] at h1
          cases h1
          refine q _ Hh P2 (one Dl) (g1.trans g2) ⟨Dl, acc, fz, rfl, hDl, rl, (fa_fz _).symm⟩ one_le fun a z => ?_
          rw [one_pos z]
          refine ⟨?_, hD2⟩
          cases z : H Dl with
          | none => rfl
          | some o => rw [g1.h _ _ z] at hD; cases hD
    · cases hm
theorem f_lcV {elt tg iter : Expr} {ifs : List Expr} {scope : Scope} (own : List (Str × Nat)) {vs : List Nat} {tl : List Nat} {f : TgM} {mc : BM} {me : RM} {ms : AM} (hvs : own.map (·.2) = vs) (hc : X.calm = true) (hN : X.N.Nodup) (hi : PI X tg iter (tIV ⟨X.K, cl⟩ E ms)) (ok : BlkOk X.N X.env.scope scope own)
    (hg : ∀ (s : Shared) (H : Hp) (C : Addr) (c : List (Str × Addr)) (fp : List Addr), PG (X.blk s H scope (compEnvC scope c C X.env) fp) tg (tPG ⟨X.K, cl⟩ E tl f)) (ht : ∀ (s : Shared) (H : Hp) (C : Addr) (c : List (Str × Addr)) (fp : List Addr), PTs (X.blk s H scope (compEnvC scope c C X.env) fp) ifs (tTs ⟨X.K, cl⟩ E mc))
    (he : ∀ (s : Shared) (H : Hp) (C : Addr) (c : List (Str × Addr)) (fp : List Addr), PE (X.blk s H scope (compEnvC scope c C X.env) fp) elt (tR ⟨X.K, cl⟩ E me)) (h1 : ∀ j ∈ tl, j ∈ vs) (h2 : ∀ j ∈ vs, E.kp[j]? ≠ some true) (hs : ∀ x, foldedSetIterable iter X.env x = pure x := by intro _; rfl) :
    PE X (.ListComp elt [⟨tg, iter, ifs, 0⟩] scope pos) (tF ⟨X.K, cl⟩ E (compM vs f mc me ms)) := by
  subst hvs
  exact PE_imp (pe_lc hc hN hi ok hg ht he hs) fun _ _ _ h => lcV_run h1 h2 h
theorem s_setLcV (i : Nat) {y : Str} {py : Pos} {elt tg iter : Expr} {ifs : List Expr} {scope : Scope} (own : List (Str × Nat)) {spos : Pos} {vs : List Nat} {tl : List Nat} {f : TgM} {mc : BM} {me : RM} {ms : AM} (hvs : own.map (·.2) = vs) (hc : X.calm = true) (hN : X.N.Nodup) (hy : X.N[i]? = some y) (hyl : X.env.scope.names.lookup y = some .local) (hki : E.kp[i]? ≠ some true)
    (hi : PI X tg iter (tIV ⟨X.K, cl⟩ E ms)) (ok : BlkOk X.N X.env.scope scope own)
    (hg : ∀ (s : Shared) (H : Hp) (C : Addr) (c : List (Str × Addr)) (fp : List Addr), PG (X.blk s H scope (compEnvC scope c C X.env) fp) tg (tPG ⟨X.K, cl⟩ E tl f)) (ht : ∀ (s : Shared) (H : Hp) (C : Addr) (c : List (Str × Addr)) (fp : List Addr), PTs (X.blk s H scope (compEnvC scope c C X.env) fp) ifs (tTs ⟨X.K, cl⟩ E mc))
    (he : ∀ (s : Shared) (H : Hp) (C : Addr) (c : List (Str × Addr)) (fp : List Addr), PE (X.blk s H scope (compEnvC scope c C X.env) fp) elt (tR ⟨X.K, cl⟩ E me)) (h1 : ∀ j ∈ tl, j ∈ vs) (h2 : ∀ j ∈ vs, E.kp[j]? ≠ some true)
    (hsw : swapsWith (.ListComp elt [⟨tg, iter, ifs, 0⟩] scope pos) (some (.Name y py)) spos.line X.env = pure true) (hs : ∀ x, foldedSetIterable iter X.env x = pure x := by intro _; rfl) :
    PS X (.Assign [.Name y py] (.ListComp elt [⟨tg, iter, ifs, 0⟩] scope pos) spos) (tS ⟨X.K, cl⟩ E (asgM (nameT i) (upF (compM vs f mc me ms)))) := by
  subst hvs
  refine PS_imp (ps_setLc hc hN hy hyl hsw hi ok hg ht he hs) fun D σ H ⟨P, S, ρ, fl, ρ', w, hm, q⟩ => ?_
  unfold asgM upF at hm
  cases eg : compM (own.map (·.2)) f mc me ms ρ with
  | none => rw [eg] at hm; cases hm
  | some d =>
    rw [eg] at hm
    cases hm
    refine lcV_run (c := ⟨X.K, cl⟩) h1 h2 ⟨P, S, fz, ρ, d, w, eg, fun v H' P' U g r u1 u2 => ?_⟩
    obtain ⟨S2, w2⟩ := (w.aside g u1 u2 (Rep.there d v U r)).store r i hki
    exact q _ H' P' S2 w2 g.p
end
/-- never called -/
theorem ok_none {P : Program} {w : World} {K : PySem.W.Frag} {mg : Str → Option Value} {base : Heap} {c : LC} {k : Nat} {f : Addr} {fd : FuncData} {ps : List Str} : FnOk P w K mg base CX0 k f fd ps (spD c fun _ => none) :=
  ⟨fun vs H Q E ⟨_, _, _, _, _, _, _, _, _, hm, _⟩ => (by cases hm), fun A outer s H args us vs Q E hr he hb hv ⟨_, _, _, _, _, _, _, _, _, hm, _⟩ => (by cases hm)⟩
end LI
/-! LV: dicts made. -/
namespace LI
open PySem L2

theorem FQ.dK {c : LC} {P H : Hp} {Q : VK} {ks : List Key} {ds : List D} {xs : List V} (h : FQ c P H (.dK true ks ds) Q) (e : Ex P H) (n : ks.length = xs.length) (r : RepL c P H ds xs fz) : ∀ p, H p = none → Q (.ref p) (upd H p (.dK (ks.zip xs))) := fun p hp => by
  refine h _ _ P (one p) ⟨.refl _, ex_new hp, e.trans (ex_new hp), fun _ z => .inl z⟩ ⟨p, xs, fz, rfl, upd_same, n, RepL.mono (.refl _) ds xs fz (fun a o z _ => by simp [fz] at z) r, (fa_fz _).symm⟩ one_le fun a z => ?_
  rw [one_pos z]
  exact ⟨hp, none_of e hp⟩
theorem valV_zip_none {ks : List Key} {k : Key} : ∀ {xs : List V}, k ∉ ks → valV (ks.zip xs) k = none := by
  induction ks with
  | nil => intro xs _; rfl
  | cons k0 ks ih =>
    intro xs h
    cases xs with
    | nil => rfl
    | cons x xs =>
      simp only [List.mem_cons, not_or] at h
      have := ih (xs := xs) h.2
      unfold valV at this ⊢
      rw [List.zip_cons_cons, List.find?_cons_of_neg (by simpa using fun z => h.1 z.symm)]
      exact this
theorem mergeK_new : ∀ (ks : List Key) (xs : List V) (js : List Key) (ys : List V), ks.length = xs.length → js.length = ys.length → (ks ++ js).Nodup → mergeK (ks.zip xs) (js.zip ys) = (ks ++ js).zip (xs ++ ys)
  | ks, xs, [], ys, h1, h2, h3 => by
    have : ys = [] := List.length_eq_zero_iff.mp h2.symm
    subst this; simp [mergeK]
  | ks, xs, j :: js, [], h1, h2, h3 => by simp at h2
  | ks, xs, j :: js, y :: ys, h1, h2, h3 => by
    have hj : j ∉ ks := fun z => by
      have := (List.nodup_append.mp h3).2.2 j z j (by simp)
      exact this rfl
    show mergeK (putK (ks.zip xs) j y) (js.zip ys) = _
    rw [putK_new y (valV_zip_none hj)]
    have e : ks.zip xs ++ [(j, y)] = (ks ++ [j]).zip (xs ++ [y]) := by rw [List.zip_append h1]; rfl
    rw [e, mergeK_new (ks ++ [j]) (xs ++ [y]) js ys (by simp [h1]) (by simpa using h2) (by simpa using h3)]
    simp

/-- the pairs of a display -/
structure PDs (X : Cx) (c : LC) (E : En) (pos : Pos) (keys : List (Option Expr)) (values : List Expr) (mk mv : AM) : Prop where
  ex : ∃ trs, PPs X pos keys values trs ∧ ∀ σ H (Q : List (V × V) → Hp → Prop) P S T ρ kds vds, Wd c E P S T σ H ρ → mk ρ = some kds → mv ρ = some vds →
    (∀ xs ys H' P' U1 U2, Gr P H P' H' → RepL c P' H' kds xs U1 → RepL c P' H' vds ys U2 → xs.length = ys.length → Q (xs.zip ys) H') → tPairs trs σ H Q
section
variable {X : Cx} {cl : Nat → Addr} {E : En} {pos : Pos}
theorem pd_nil : PDs X ⟨X.K, cl⟩ E pos [] [] nilM nilM := ⟨[], pps_nil, fun σ H Q P S T ρ kds vds w h1 h2 q => by
  cases h1; cases h2
  exact q [] [] H P fz fz (.refl w.ph) ⟨rfl, rfl⟩ ⟨rfl, rfl⟩ rfl⟩
theorem pd_cons {k v : Expr} {ks : List (Option Expr)} {vs : List Expr} {mk mv : RM} {mks mvs : AM} (hk : PE X k (tR ⟨X.K, cl⟩ E mk)) (hv : PE X v (tR ⟨X.K, cl⟩ E mv)) (hr : PDs X ⟨X.K, cl⟩ E pos ks vs mks mvs) :
    PDs X ⟨X.K, cl⟩ E pos (some k :: ks) (v :: vs) (consM mk mks) (consM mv mvs) := by
  obtain ⟨trs, p1, p2⟩ := hr.ex
  refine ⟨⟨_, pps_cons hk hv p1, fun σ H Q P S T ρ kds vds w h1 h2 q => ?_⟩⟩
  unfold consM at h1 h2
  cases ek : mk ρ with
  | none => rw [ek] at h1; cases h1
  | some d1 =>
    cases ev : mv ρ with
    | none => rw [ev] at h2; cases h2
    | some d2 =>
      cases eks : mks ρ with
      | none => rw [ek, eks] at h1; cases h1
      | some ds1 =>
        cases evs : mvs ρ with
        | none => rw [ev, evs] at h2; cases h2
        | some ds2 =>
          rw [ek, eks] at h1; rw [ev, evs] at h2
          cases h1; cases h2
          refine ⟨P, S, T, ρ, d1, w, ek, fun x H1 P1 U1 g1 r1 => ⟨P1, S, T, ρ, d2, w.grow g1, ev, fun y H2 P2 U2 g2 r2 => ?_⟩⟩
          refine p2 σ H2 _ P2 S T ρ ds1 ds2 ((w.grow g1).grow g2) eks evs fun xs ys H3 P3 U3 U4 g3 r3 r4 hl => ?_
          exact q (x :: xs) (y :: ys) H3 P3 (fa U1 U3) (fa U2 U4) ((g1.trans g2).trans g3) ⟨x, xs, U1, U3, rfl, (r1.gr g2).gr g3, r3, rfl⟩ ⟨y, ys, U2, U4, rfl, r2.gr g3, r4, rfl⟩ (by simp [hl])
def dispM (mk mv : AM) : RM := fun ρ => (mk ρ).bind fun kds => (mv ρ).bind fun vds => (keyDs kds).bind fun ks => if ks.Nodup ∧ frzL vds = true ∧ ks.length ≤ 15 ∧ ks.length = vds.length then some (.dK true ks vds) else none
theorem keyDs_len : ∀ {ds : List D} {ks : List Key}, keyDs ds = some ks → ks.length = ds.length
  | [], ks, h => by cases h; rfl
  | d :: ds, ks, h => by
    unfold keyDs at h
    cases z : keyD d with
    | none => rw [z] at h; cases h
    | some k =>
      cases z2 : keyDs ds with
      | none => rw [z, z2] at h; cases h
      | some ks' => rw [z, z2] at h; cases h; simp [keyDs_len z2]
theorem f_dnew : PE X (.Dict [] [] pos) (tF ⟨X.K, cl⟩ E (dispM nilM nilM)) := PE_imp pe_dnewK fun σ H Q ⟨P, S, T, ρ, d, w, hm, q⟩ => by
  cases hm
  exact fun p hp => q.dK (ks := []) (ds := []) (xs := []) w.ph rfl ⟨rfl, rfl⟩ p hp
theorem f_disp {keys : List (Option Expr)} {values : List Expr} {mk mv : AM} (h : PDs X ⟨X.K, cl⟩ E pos keys values mk mv) (hall : keys.all (·.isSome) = true) (hl : keys.length = values.length) (h0 : keys ≠ []) (h15 : keys.length ≤ 15) :
    PE X (.Dict keys values pos) (tF ⟨X.K, cl⟩ E (dispM mk mv)) := by
  obtain ⟨trs, p1, p2⟩ := h.ex
  refine PE_imp (pe_disp p1 hall hl h0 h15) fun σ H Q ⟨P, S, T, ρ, d, w, hm, q⟩ => ?_
  unfold dispM at hm
  cases ek : mk ρ with
  | none => rw [ek] at hm; cases hm
  | some kds =>
    cases ev : mv ρ with
    | none => rw [ek, Option.bind_some, ev] at hm; cases hm
    | some vds =>
      rw [ek, Option.bind_some, ev, Option.bind_some] at hm
      cases eks : keyDs kds with
      | none => rw [eks] at hm; cases hm
      | some ks =>
        rw [eks, Option.bind_some] at hm
        split at hm
        · rename_i hc
          obtain ⟨c1, c2, c3, c4⟩ := hc
          cases hm
          intro p hp
          have hP := none_of w.ph hp
          have g1 : Gr P H P (upd H p (.dK [])) := ⟨.refl _, ex_new hp, w.ph.trans (ex_new hp), fun a z => .inl z⟩
          refine p2 σ _ _ P S T ρ kds vds (w.grow g1) ek ev fun xs ys H2 P2 U1 U2 g2 r1 r2 hlen => ?_
          have hp2 : H2 p = some (.dK []) := g2.h p _ upd_same
          have hP2 : P2 p = none := by
            cases z : P2 p with
            | none => rfl
            | some o =>
              rcases g2.new p (by rw [z]; simp) with y | y
              · exact absurd hP y
              · rw [upd_same] at y; cases y
          have hx := keyDs_v eks r1
          have hz := RepL.frz0 vds ys U2 c2 r2
          subst hz
          refine ⟨hp2, ks.zip ys, ?_, ?_, ?_⟩
          · rw [hx, List.zip_map_left]; rfl
          · rw [List.length_zip]; omega
          · have hn : ks.length = ys.length := by rw [← hlen, hx, List.length_map]
            have em : mergeK [] (ks.zip ys) = ks.zip ys := by
              have := mergeK_new [] [] ks ys rfl hn (by simpa using c1)
              simpa using this
            rw [em]
            refine q _ _ P2 (one p) ⟨g2.p, fun a o z => ?_, fun a o z => ?_, fun a z => ?_⟩ ⟨p, ys, fz, rfl, upd_same, hn, repL_h r2, (fa_fz _).symm⟩ one_le fun a z => ?_
            · have : a ≠ p := ne_of_none z hp
              rw [upd_ne this]
              exact g2.h a o (by rw [upd_ne this]; exact z)
            · have : a ≠ p := fun y => by subst y; rw [hP2] at z; cases z
              rw [upd_ne this]
              exact g2.ph a o z
            · have : a ≠ p := fun y => by subst y; exact z hP2
              rcases g2.new a z with y | y
              · exact .inl y
              · rw [upd_ne this] at y; exact .inr y
            · rw [one_pos z]; exact ⟨hp, hP2⟩
        · cases hm
end
end LI
/-! LX: enumerate over a text. -/
namespace LI
open PySem PySem.Spec PyProof.Rows L2

/-- a text's signs, each in a new pair -/
def Iten (x : Str) : It :=
  ⟨fun i _ => i < x.cps.size, fun i H v H' => ∃ T c, v = .ref T ∧ H T = none ∧ H' = upd H T (.tup [.int (i : Nat), .str ⟨#[c]⟩]) ∧ x.cps[i]? = some c, fun i _ => x.cps.size ≤ i⟩
theorem turn_enumS {P : Program} {w : World} {K : PySem.W.Frag} {elts : List Expr} {kk : Nat} {tpos : Pos} (x : Str) (t : Tok) (ty : String) (hty : ty = "str_ascii_iterator" ∨ ty = "str_iterator") (e it : Addr) :
    Turn P w K (.Tuple elts kk tpos) (Iten x) [e, it] e (fun i h => (∃ old, IsEnum h e it ((i : Nat) : Int) old) ∧ h.IsStrIter it ty x t i ∧ e ≠ it ∧ i ≤ x.cps.size) where
  mem := by simp
  obj := fun i h st b hb => by
    obtain ⟨⟨old, he⟩, ⟨o, ho, hc, hd⟩, _⟩ := st
    have e' : b = e ∨ b = it := by simpa using hb
    rcases e' with z | z
    · rw [z]; exact ⟨_, he, fun v q => nomatch q⟩
    · rw [z]; exact ⟨o, ho, fun v q => by rw [hd] at q; cases q⟩
  keep := fun i h h' st k => let ⟨⟨old, he⟩, ⟨o, ho, r⟩, hne⟩ := st; ⟨⟨old, k e (by simp) _ he⟩, ⟨o, k it (by simp) o ho, r⟩, hne⟩
  item := by
    intro X hP hw hK hc i pins s σ H E I hf st hg
    subst hP hw hK
    obtain ⟨⟨old, he⟩, hit, hne, _⟩ := st
    replace hg : i < x.cps.size := hg
    have hel : e < s.heap.objs.size := Heap.lt_size he
    have hil : it < s.heap.objs.size := by obtain ⟨_, q, _⟩ := hit; exact Heap.lt_size q
    have D : Draws X.prog X.w X.A.in1 it [it] x.cps.size (fun i v => ∃ c u, x.cps[i]? = some c ∧ v = .str ⟨#[c]⟩ u) (fun i h => h.IsStrIter it ty x t i) := by
      rcases hty with q | q
      · rw [q]; exact Draws.strAscii (A := X.A.in1) (I.ok.hd hc) it x t
      · rw [q]; exact Draws.strWide (A := X.A.in1) (I.ok.hd hc) it x t
    refine wpAny_pyNext_enum_itemD D he hit hg hne (by simpa using hne) fun v h' tk hv ho hit' hT hsz hk => ?_
    obtain ⟨c, u, hcx, rfl⟩ := hv
    refine ⟨_, rfl, wpAny_letOwnedTupleGo_enum (s := { s with heap := h', toks := tk + 1 }) ho fun h'' he' sb => ?_⟩
    have hT2 : h''.get? s.heap.objs.size = some { cls := .type "tuple", data := .seq #[.int i tk, .str ⟨#[c]⟩ u] } := (sb.2 _ (Nat.ne_of_gt hel)).trans hT
    have new : ObjOk X.prog X.w (upd H s.heap.objs.size (.tup [.int (i : Nat), .str ⟨#[c]⟩])) h'' s.heap.objs.size (.tup [.int (i : Nat), .str ⟨#[c]⟩]) :=
      ⟨by show 2 ≤ sizeLine; decide, [.int i tk, .str ⟨#[c]⟩ u], .cons ⟨_, rfl⟩ (.cons ⟨_, rfl⟩ .nil), ⟨_, hT2, rfl, _, rfl⟩⟩
    have I1 : Inv X pins σ (upd H s.heap.objs.size (.tup [.int (i : Nat), .str ⟨#[c]⟩])) { s with heap := h'', toks := tk + 1 } :=
      I.turnedNew (ch := [e, it]) (fun b ob hb q => (sb.2 b (fun z => hb (by simp [z]))).trans (hk b ob (fun z => hb (by simp [z])) (fun z => hb (by simp [z])) q)) hf (Nat.le_refl _) new
    obtain ⟨oi, q1, q2⟩ := hit'
    refine ⟨.ref s.heap.objs.size, _, I1, rfl, ⟨_, c, rfl, I.hok.fresh (Nat.le_refl _), rfl, hcx⟩, ⟨⟨.str ⟨#[c]⟩ u, ?_⟩, ⟨oi, (sb.2 it (Ne.symm hne)).trans q1, q2⟩, hne, hg⟩, fun b hb => ?_⟩
    · have e1 : ((i + 1 : Nat) : Int) = (i : Int) + 1 := by omega
      rw [e1]; exact he'
    · have hb' : b < s.heap.objs.size := by
        have e' : b = e ∨ b = it := by simpa using hb
        rcases e' with z | z
        · rw [z]; exact hel
        · rw [z]; exact hil
      rw [upd_ne (Nat.ne_of_lt hb')]
      exact (hf b hb).1
  done := by
    intro X hP hw hK hc i pins s σ H E I hf st hg
    subst hP hw hK
    obtain ⟨⟨old, he⟩, hit, hne, hle⟩ := st
    replace hg : x.cps.size ≤ i := hg
    have hi : i = x.cps.size := Nat.le_antisymm hle hg
    subst hi
    have D : Draws X.prog X.w X.A.in1 it [it] x.cps.size (fun i v => ∃ c u, x.cps[i]? = some c ∧ v = .str ⟨#[c]⟩ u) (fun i h => h.IsStrIter it ty x t i) := by
      rcases hty with q | q
      · rw [q]; exact Draws.strAscii (A := X.A.in1) (I.ok.hd hc) it x t
      · rw [q]; exact Draws.strWide (A := X.A.in1) (I.ok.hd hc) it x t
    obtain ⟨f0, f1, f2, f3, f4, f5⟩ := hf it (by simp)
    exact wpAny_pyNext_enum_endD D he hit fun h' eb => ⟨rfl, I.turned (t' := s.toks) (fun b o hb q => eb b o hb q) f0 f1 f3 f4 f5⟩
  self := fun A i s Q E st h => let ⟨⟨_, he⟩, _⟩ := st; wpAny_pyIter_enum he h
def iEnumS (ta : TA) : TI := fun σ H R => ta σ H fun vs H1 => ∃ x, vs = [.str x] ∧ R (Iten x) H1
theorem pi_enumS {X : Cx} {e : Expr} {ta : TA} {p pos tpos : Pos} {elts : List Expr} {kk : Nat} (hg : Gl X "enumerate") (hm : X.mg "enumerate" = none) (ha : PA X [e] ta) (hs : starEach [e] X.env = [(false, eval e X.env)] := by rfl) :
    PI X (.Tuple elts kk tpos) (.Call (.Name "enumerate" p) [e] [] pos) (iEnumS ta) := by
  refine ⟨fun pins s σ H R I h => ?_⟩
  refine Call_ (ld_blt I hg hm boot_enumerate (PyProof.Rows.callWith_type1 (thn (ha.run pos pins s σ H _ I h) fun us s1 ⟨vs, H1, I1, r1, q1⟩ => ?_) hs rfl))
  obtain ⟨x, ex, q⟩ := q1
  subst ex
  cases r1 with
  | cons r rr =>
    cases rr
    obtain ⟨t, rfl⟩ := r
    refine call_enumerate_str fun h' he hit hsz hk => wpAny_pyIter_enum he ?_
    have I2 : Inv X pins σ H1 { s1 with heap := h' } := I1.kept (t' := s1.toks) hk
    have hty : strIterType x = "str_ascii_iterator" ∨ strIterType x = "str_iterator" := by
      unfold strIterType
      split
      · exact .inl rfl
      · exact .inr rfl
    refine ⟨s1.heap.objs.size + 1, [s1.heap.objs.size + 1, s1.heap.objs.size], _, _, H1, rfl, I2, turn_enumS x t _ hty (s1.heap.objs.size + 1) s1.heap.objs.size, ⟨⟨.none, he⟩, hit, Nat.succ_ne_self _, Nat.zero_le _⟩, fun b hb => ?_, q⟩
    have e' : b = s1.heap.objs.size + 1 ∨ b = s1.heap.objs.size := by simpa using hb
    have hle : s1.heap.objs.size ≤ b := by
      rcases e' with z | z
      · rw [z]; exact Nat.le_add_right _ _
      · rw [z]; exact Nat.le_refl _
    exact I1.fpOk hle (I1.hok.fresh hle)
theorem walk_enumS {x : Str} : Walk (Iten x) x.cps.size (fun _ => True) (fun i H v H' => ∃ T c, v = .ref T ∧ H T = none ∧ H' = upd H T (.tup [.int (i : Nat), .str ⟨#[c]⟩]) ∧ x.cps[i]? = some c) :=
  ⟨fun _ _ hi _ => hi, fun _ _ => Nat.le_refl _, fun _ _ _ _ _ _ y => y⟩
def enumSM (m : RM) : AM := fun ρ => (m ρ).bind fun d => match d with
  | .str s => some (enumFrom 0 (strsD s))
  | d => (lstD d).map (enumFrom 0)
section
variable {X : Cx} {cl : Nat → Addr} {E : En} {e a b tg : Expr} {pos : Pos} {m : RM}
theorem i_enumS {elts : List Expr} {kk : Nat} {p tpos : Pos} (hg : Gl X "enumerate") (hm : X.mg "enumerate" = none) (h : PE X e (tR ⟨X.K, cl⟩ E m)) (hs : starEach [e] X.env = (false, eval e X.env) :: starEach [] X.env := by rfl) :
    PI X (.Tuple elts kk tpos) (.Call (.Name "enumerate" p) [e] [] pos) (tI ⟨X.K, cl⟩ E (enumSM m)) := PI_imp (PI_or (pi_enumS hg hm (a_cons h a_nil hs) hs) (i_enum hg hm h hs)) fun σ H R ⟨P, S, T, ρ, ds, w, hm, q⟩ => by
  unfold enumSM at hm
  cases ea : m ρ with
  | none => rw [ea] at hm; cases hm
  | some d =>
    rw [ea, Option.bind_some] at hm
    cases d with
    | str s =>
      cases hm
      refine .inl ⟨P, S, T, ρ, [.str s], w, by simp [consM, nilM, ea], fun vs H1 P1 U1 g1 ⟨y, ys, T1, T2, e1, r1, r2, f⟩ => ?_⟩
      refine ⟨⟨s.toArray⟩, by rw [e1, r1.1, r2.1], q _ H1 P1 g1 ⟨_, _, by rw [enumFrom_len, show (strsD s).length = (⟨s.toArray⟩ : Str).cps.size by simp [strsD]]; exact walk_enumS, fun _ _ _ _ => True.intro, fun i P2 H2 x H3 e1 e2 hi y => ?_⟩⟩
      obtain ⟨T, c, h1, h2, h3, h4⟩ := y
      have hk : s[i]? = some c := by simpa using h4
      obtain ⟨P3, g3, r3⟩ := pair_gr (c := ⟨X.K, cl⟩) (d1 := .int ((0 + i : Nat) : Int)) (d2 := .str [c]) e2 h2 h3 ⟨by simp, rfl⟩ ⟨rfl, rfl⟩
      exact ⟨P3, _, g3, enumFrom_get (strsD s) 0 i (.str [c]) (by simp [strsD, hk]), h1 ▸ r3⟩
    | _ => exact .inr ⟨P, S, T, ρ, ds, w, by unfold enumM; rw [ea]; exact hm, q⟩
end
end LI
/-! LY: a written dict of texts under texts. -/
namespace LI
open PySem PySem.Spec PyProof.Rows L2

def KdVals (P : Params) : List DictEntry → List (List Nat × List Nat) → Prop
  | [], [] => True
  | e :: es, kv :: kvs => (∃ t, e.key = .str ⟨kv.1.toArray⟩ t ∧ e.hash = PyData.keyHash P ⟨kv.1.toArray⟩) ∧ (∃ t, e.val = .str ⟨kv.2.toArray⟩ t) ∧ KdVals P es kvs
  | _, _ => False
theorem KdVals.lit {P : Params} : ∀ {es : List DictEntry} {kvs : List (List Nat × List Nat)}, KdVals P es kvs → PySem.W.KeysLit P es
  | [], [], _ => trivial
  | e :: es, kv :: kvs, ⟨⟨t, h1, h2⟩, _, h3⟩ => ⟨⟨_, t, h1, h2⟩, h3.lit⟩
  | [], _ :: _, h => h.elim
  | _ :: _, [], h => h.elim
/-- what stands under a key -/
def kdGet : List (List Nat × List Nat) → List Nat → Option (List Nat)
  | [], _ => none
  | kv :: kvs, z => if kv.1 = z then some kv.2 else kdGet kvs z
theorem kd_find {P : Params} (z : List Nat) : ∀ {es : List DictEntry} {kvs : List (List Nat × List Nat)}, KdVals P es kvs → (match kdGet kvs z with
    | some v => ∃ e t, es.find? (fun e => e.key.isStr ⟨z.toArray⟩) = some e ∧ e.val = .str ⟨v.toArray⟩ t
    | none => es.find? (fun e => e.key.isStr ⟨z.toArray⟩) = none) ∧ es.any (fun e => e.refKey) = false
  | [], [], _ => ⟨rfl, rfl⟩
  | e :: es, kv :: kvs, ⟨⟨t, h1, h2⟩, ⟨t2, h4⟩, h3⟩ => by
    obtain ⟨i1, i2⟩ := kd_find z h3
    have hs : e.key.isStr ⟨z.toArray⟩ = decide (kv.1 = z) := by
      rw [h1]
      show ((⟨kv.1.toArray⟩ : Str) == ⟨z.toArray⟩) = _
      rw [str_beq, Bool.eq_iff_iff]; simp
    refine ⟨?_, ?_⟩
    · unfold kdGet
      by_cases h : kv.1 = z
      · rw [if_pos h]
        exact ⟨e, t2, by rw [List.find?_cons_of_pos (by rw [hs]; simp [h])], h4⟩
      · rw [if_neg h, List.find?_cons_of_neg (by rw [hs]; simp [h])]
        exact i1
    · rw [List.any_cons, i2, Bool.or_false]
      unfold DictEntry.refKey
      rw [h1]
  | [], _ :: _, h => h.elim
  | _ :: _, [], h => h.elim
structure GlKd (K : PySem.W.Frag) (mg : Str → Option Value) (w : World) (x : Str) (kvs : List (List Nat × List Nat)) : Prop where
  ex : ∃ d es n, mg x = some (.ref d) ∧ K.lookup d = some ⟨.type "dict", none, .dict es n, #[]⟩ ∧ (d == sysModules) = false ∧ KdVals w.params es.toList kvs
theorem GlKd.get {K : PySem.W.Frag} {mg : Str → Option Value} {w : World} {x : Str} {kvs : List (List Nat × List Nat)} (G : GlKd K mg w x kvs) : ∃ d es n, mg x = some (.ref d) ∧ KDict K w d es n ∧ ∀ z : List Nat, match kdGet kvs z with
    | some v => ∃ t, PySem.W.nsIn K d ⟨z.toArray⟩ = some (some (.str ⟨v.toArray⟩ t))
    | none => PySem.W.nsIn K d ⟨z.toArray⟩ = some none := by
  obtain ⟨d, es, n, h1, h2, h3, h4⟩ := G.ex
  refine ⟨d, es, n, h1, ⟨h2, h4.lit, h3⟩, fun z => ?_⟩
  obtain ⟨i1, i2⟩ := kd_find z h4
  unfold PySem.W.nsIn
  rw [h2]
  cases hz : kdGet kvs z with
  | some v =>
    rw [hz] at i1
    obtain ⟨e, t, e1, e2⟩ := i1
    refine ⟨t, ?_⟩
    show (match es.toList.find? (fun e => e.key.isStr ⟨z.toArray⟩) with
      | some e => some (some e.val)
      | none => if es.toList.any (fun e => e.refKey) = true then none else some none) = _
    rw [e1, ← e2]
  | none =>
    rw [hz] at i1
    show (match es.toList.find? (fun e => e.key.isStr ⟨z.toArray⟩) with
      | some e => some (some e.val)
      | none => if es.toList.any (fun e => e.refKey) = true then none else some none) = _
    rw [i1, i2]; rfl
def inK (kvs : List (List Nat × List Nat)) : D → Option D
  | .str z => some (.bl (kdGet kvs z).isSome)
  | _ => none
def ninK (kvs : List (List Nat × List Nat)) : D → Option D
  | .str z => some (.bl (!(kdGet kvs z).isSome))
  | _ => none
def ixK (kvs : List (List Nat × List Nat)) : D → Option D
  | .str z => (kdGet kvs z).map .str
  | _ => none
theorem ix_kd {X : Cx} {d : Addr} {es : Array DictEntry} {n : Nat} (D : KDict X.K X.w d es n) : IxR X (fun x y H Q => ∃ (z : Str) (u0 : Value) (v0 : V), x = .ref d ∧ y = .str z ∧ PySem.W.nsIn X.K d z = some (some u0) ∧ RelV v0 u0 ∧ Q v0 H) := by
  intro value slice pins s σ H x y v u Q I rx ry h hs
  have hx := h
  obtain ⟨z, u0, v0, ex, ey, e, r, q⟩ := hx
  have hT := kd_type D I
  subst ex
  cases rx
  exact tail_any hT PySem.F.slot_dict_getitem.lookup (op_item_kd D pins s σ H (.ref d) y (.ref d) u Q I rfl ry h) hs
section
variable {X : Cx} {cl : Nat → Addr} {E : En} {e a b : Expr} {pos p : Pos} {m : RM} {x : Str} {kvs : List (List Nat × List Nat)}
theorem m1_some {f : D → Option D} {ρ : List D} {d : D} (h : m1 f m ρ = some d) : ∃ da, m ρ = some da ∧ f da = some d := by
  unfold m1 at h
  cases ea : m ρ with
  | none => rw [ea] at h; cases h
  | some da => rw [ea] at h; exact ⟨da, rfl, h⟩
theorem f_inK (ha : PE X a (tR ⟨X.K, cl⟩ E m)) (hg : Gl X x) (G : GlKd X.K X.mg X.w x kvs) (hd : (x == ("__debug__" : Str)) = false := by decide) (hm : behindInMarks .In (Expr.Name x p) = false := by rfl) : PE X (.Compare a [.In] [.Name x p] pos) (tF ⟨X.K, cl⟩ E (m1 (inK kvs) m)) := by
  obtain ⟨d, es, n, h1, D, hget⟩ := G.get
  refine PE_imp (pe_cmpR (op_in_kd D) ha (pe_glob (v := .ref d) (u := .ref d) hg h1 rfl hd) hm) fun σ H Q ⟨P, S, T, ρ, dd, w, hm, q⟩ => ?_
  obtain ⟨da, e1, e2⟩ := m1_some hm
  cases da with
  | str z =>
    cases e2
    refine ⟨P, S, T, ρ, .str z, w, e1, fun v H1 P1 U1 g1 r1 => ?_⟩
    have hz := hget z
    have fin : Q (.bl (kdGet kvs z).isSome) H1 := (q.grow g1).flat g1.ph ⟨rfl, rfl⟩
    cases hk : kdGet kvs z with
    | some u =>
      rw [hk] at hz fin
      obtain ⟨t, hz⟩ := hz
      exact ⟨_, _, r1.1, rfl, hz, fin⟩
    | none =>
      rw [hk] at hz fin
      exact ⟨_, _, r1.1, rfl, hz, fin⟩
  | _ => cases e2
theorem f_ninK (ha : PE X a (tR ⟨X.K, cl⟩ E m)) (hg : Gl X x) (G : GlKd X.K X.mg X.w x kvs) (hd : (x == ("__debug__" : Str)) = false := by decide) (hm : behindInMarks .NotIn (Expr.Name x p) = false := by rfl) : PE X (.Compare a [.NotIn] [.Name x p] pos) (tF ⟨X.K, cl⟩ E (m1 (ninK kvs) m)) := by
  obtain ⟨d, es, n, h1, D, hget⟩ := G.get
  refine PE_imp (pe_cmpR (op_notIn_kd D) ha (pe_glob (v := .ref d) (u := .ref d) hg h1 rfl hd) hm) fun σ H Q ⟨P, S, T, ρ, dd, w, hm, q⟩ => ?_
  obtain ⟨da, e1, e2⟩ := m1_some hm
  cases da with
  | str z =>
    cases e2
    refine ⟨P, S, T, ρ, .str z, w, e1, fun v H1 P1 U1 g1 r1 => ?_⟩
    have hz := hget z
    have fin : Q (.bl (!(kdGet kvs z).isSome)) H1 := (q.grow g1).flat g1.ph ⟨rfl, rfl⟩
    cases hk : kdGet kvs z with
    | some u =>
      rw [hk] at hz fin
      obtain ⟨t, hz⟩ := hz
      exact ⟨_, _, r1.1, rfl, hz, fin⟩
    | none =>
      rw [hk] at hz fin
      exact ⟨_, _, r1.1, rfl, hz, fin⟩
  | _ => cases e2
theorem f_ixK (hb : PE X b (tR ⟨X.K, cl⟩ E m)) (hg : Gl X x) (G : GlKd X.K X.mg X.w x kvs) (hs : PlainIx b := by intro _ _; rfl) (hd : (x == ("__debug__" : Str)) = false := by decide) : PE X (.Subscript (.Name x p) b pos) (tF ⟨X.K, cl⟩ E (m1 (ixK kvs) m)) := by
  obtain ⟨d, es, n, h1, D, hget⟩ := G.get
  refine PE_imp (pe_ix (ix_kd D) (pe_glob (v := .ref d) (u := .ref d) hg h1 rfl hd) hb hs) fun σ H Q ⟨P, S, T, ρ, dd, w, hm, q⟩ => ?_
  obtain ⟨da, e1, e2⟩ := m1_some hm
  cases da with
  | str z =>
    replace e2 : (kdGet kvs z).map LI.D.str = some dd := e2
    refine ⟨P, S, T, ρ, .str z, w, e1, fun v H1 P1 U1 g1 r1 => ?_⟩
    have hz := hget z
    cases hk : kdGet kvs z with
    | some u =>
      rw [hk] at hz e2
      cases e2
      obtain ⟨t, hz⟩ := hz
      exact ⟨_, _, .str ⟨u.toArray⟩, rfl, r1.1, hz, ⟨t, rfl⟩, (q.grow g1).flat g1.ph ⟨rfl, rfl⟩⟩
    | none => rw [hk] at e2; cases e2
  | _ => cases e2
theorem t_inK (ha : PE X a (tR ⟨X.K, cl⟩ E m)) (hg : Gl X x) (G : GlKd X.K X.mg X.w x kvs) (hd : (x == ("__debug__" : Str)) = false := by decide) (hm : behindInMarks .In (Expr.Name x p) = false := by rfl) : PT X (.Compare a [.In] [.Name x p] pos) (tT ⟨X.K, cl⟩ E (bM (m1 (inK kvs) m))) := by
  obtain ⟨d, es, n, h1, D, hget⟩ := G.get
  refine t_test (m := m1 (inK kvs) m) (pt_cmpR (op_in_kd D) ha (pe_glob (v := .ref d) (u := .ref d) hg h1 rfl hd) hm) fun σ H Q ⟨P, S, T, ρ, dd, w, hm, q⟩ => ?_
  obtain ⟨da, e1, e2⟩ := m1_some hm
  cases da with
  | str z =>
    cases e2
    refine ⟨P, S, T, ρ, .str z, w, e1, fun v H1 P1 U1 g1 r1 => ?_⟩
    have hz := hget z
    have fin : Q (.bl (kdGet kvs z).isSome) H1 := (q.grow g1).flat g1.ph ⟨rfl, rfl⟩
    cases hk : kdGet kvs z with
    | some u =>
      rw [hk] at hz fin
      obtain ⟨t, hz⟩ := hz
      exact ⟨_, _, r1.1, rfl, hz, fin⟩
    | none =>
      rw [hk] at hz fin
      exact ⟨_, _, r1.1, rfl, hz, fin⟩
  | _ => cases e2
theorem t_ninK (ha : PE X a (tR ⟨X.K, cl⟩ E m)) (hg : Gl X x) (G : GlKd X.K X.mg X.w x kvs) (hd : (x == ("__debug__" : Str)) = false := by decide) (hm : behindInMarks .NotIn (Expr.Name x p) = false := by rfl) : PT X (.Compare a [.NotIn] [.Name x p] pos) (tT ⟨X.K, cl⟩ E (bM (m1 (ninK kvs) m))) := by
  obtain ⟨d, es, n, h1, D, hget⟩ := G.get
  refine t_test (m := m1 (ninK kvs) m) (pt_cmpR (op_notIn_kd D) ha (pe_glob (v := .ref d) (u := .ref d) hg h1 rfl hd) hm) fun σ H Q ⟨P, S, T, ρ, dd, w, hm, q⟩ => ?_
  obtain ⟨da, e1, e2⟩ := m1_some hm
  cases da with
  | str z =>
    cases e2
    refine ⟨P, S, T, ρ, .str z, w, e1, fun v H1 P1 U1 g1 r1 => ?_⟩
    have hz := hget z
    have fin : Q (.bl (!(kdGet kvs z).isSome)) H1 := (q.grow g1).flat g1.ph ⟨rfl, rfl⟩
    cases hk : kdGet kvs z with
    | some u =>
      rw [hk] at hz fin
      obtain ⟨t, hz⟩ := hz
      exact ⟨_, _, r1.1, rfl, hz, fin⟩
    | none =>
      rw [hk] at hz fin
      exact ⟨_, _, r1.1, rfl, hz, fin⟩
  | _ => cases e2
end
end LI
/-! LZ: an operation whose right side changes something. -/
namespace LI
open PySem L2
def binVG (f : D → D → Option D) (i : Nat) (g : GM) : GM := fun ρ => (vM i ρ).bind fun _ => (g ρ).bind fun r => (vM i r.2).bind fun x => (f x r.1).map fun d => (d, r.2)
section
variable {X : Cx} {cl : Nat → Addr} {E : En} {a b : Expr} {pos p : Pos} {g : GM} {r : R2} {f : D → D → Option D}
theorem vM_some {i : Nat} {ρ : List D} {d : D} (h : vM i ρ = some d) : ρ[i]? = some d ∧ notGone d = true := by
  unfold vM at h
  cases e : ρ[i]? with
  | none => rw [e] at h; cases h
  | some d1 =>
    rw [e, Option.bind_some] at h
    split at h
    · rename_i hn; cases h; exact ⟨rfl, hn⟩
    · cases h
theorem slot_val {c : LC} {P H : Hp} {S : FP} {ρ : List D} {σ : St} {i : Nat} {d : D} (h : RepE c P H ρ σ S) (e : ρ[i]? = some d) (n : notGone d = true) : ∃ v T, σ[i]? = some (some v) ∧ Rep c P H d v T := by
  obtain ⟨ov, T, h1, h2, _⟩ := h.get e
  cases ov with
  | none => rw [h2.1] at n; cases n
  | some v => exact ⟨v, T, h1, h2⟩
theorem g_binV (i : Nat) {x : Str} {op : Operator} (ho : OpR X (binaryOp op) r) (hf : Op2 ⟨X.K, cl⟩ r f) (hb : PE X b (tG ⟨X.K, cl⟩ E g)) (hN : X.N[i]? = some x := by rfl) (hv : Vis X.env.scope x := by first | exact Or.inl rfl | exact Or.inr (Or.inl rfl) | exact Or.inr (Or.inr rfl)) (hd : (x == ("__debug__" : Str)) = false := by decide)
    (hcd : (x == ("__classdict__" : Str)) = false := by decide) : PE X (.BinOp (.Name x p) op b pos) (tG ⟨X.K, cl⟩ E (binVG f i g)) :=
  PE_imp (pe_op ho (pe_var hN hv hd hcd) hb) fun σ H Q ⟨P, S, T, ρ, d, ρ', w, hm, q⟩ => by
    unfold binVG at hm
    cases e1 : vM i ρ with
    | none => rw [e1] at hm; cases hm
    | some d0 =>
      rw [e1, Option.bind_some] at hm
      cases e2 : g ρ with
      | none => rw [e2] at hm; cases hm
      | some rr =>
        obtain ⟨db, ρ1⟩ := rr
        rw [e2, Option.bind_some] at hm
        cases e3 : vM i ρ1 with
        | none => rw [e3] at hm; cases hm
        | some da =>
          rw [e3, Option.bind_some] at hm
          cases e4 : f da db with
          | none => rw [e4] at hm; cases hm
          | some d1 =>
            rw [e4] at hm
            cases hm
            obtain ⟨k1, k2⟩ := vM_some e1
            obtain ⟨v, T0, hs, _⟩ := slot_val w.env k1 k2
            refine ⟨v, hs, P, S, T, ρ, db, _, w, e2, fun y H1 P1 S1 U1 w1 x1 ry kT => ?_⟩
            obtain ⟨j1, j2⟩ := vM_some e3
            obtain ⟨v', T1, hs', rx⟩ := slot_val w1.env j1 j2
            rw [hs] at hs'
            cases hs'
            refine hf P1 H1 w1.ph da db d v y T1 U1 e4 rx ry Q fun z H2 P2 U2 g2 rz u1 u2 => ?_
            exact q z H2 P2 S1 U2 ((w1.drop).aside g2 u1 u2 (Rep.there d z U2 rz)) (x1.trans g2.p) rz fun a o h1 h2 => g2.h a o (kT a o h1 h2)
end
end LI
/-! LQ: how the terms are worked out, in plain Lean. -/
namespace LI
open PySem L2

/-! ### the terms -/
def rng1D : D → Option (List D) := fun d => match d with | .int j => if -(2 ^ 62) ≤ j ∧ j < 2 ^ 62 then some (upD 0 j.toNat) else none | _ => none
def rng2D : D → D → Option (List D) := fun x y => match x, y with | .int i, .int j => if -(2 ^ 62) ≤ i ∧ i < 2 ^ 62 ∧ -(2 ^ 62) ≤ j ∧ j < 2 ^ 62 then some (upD i (j - i).toNat) else none | _, _ => none
theorem rng1_int {j : Int} (h1 : -1000000000000 ≤ j) (h2 : j ≤ 1000000000000) : rng1D (.int j) = some (upD 0 j.toNat) := by
  unfold rng1D
  exact if_pos ⟨by omega, by omega⟩
theorem rng1_nat {k : Nat} (h2 : k ≤ 1000000000000) : rng1D (.int k) = some (upD 0 k) := rng1_int (by omega) (by omega)
theorem rng2_int {i j : Int} (h1 : -1000000000000 ≤ i) (h2 : i ≤ 1000000000000) (h3 : -1000000000000 ≤ j) (h4 : j ≤ 1000000000000) : rng2D (.int i) (.int j) = some (upD i (j - i).toNat) := by
  unfold rng2D
  exact if_pos ⟨by omega, by omega, by omega, by omega⟩

section
variable {ρ : List D} {i n : Nat} {d : D} {m ma mb mc : RM} {ms : AM} {f : D → D → Option D} {g : D → Option D} {F : FM}
@[simp] theorem ev_v : vM i ρ = (ρ[i]?).bind fun d => if notGone d = true then some d else none := (rfl)
@[simp] theorem ev_k : kM d ρ = some d := (rfl)
@[simp] theorem ev_m2 : m2 f ma mb ρ = (ma ρ).bind fun x => (mb ρ).bind fun y => f x y := (rfl)
@[simp] theorem ev_m1 : m1 g ma ρ = (ma ρ).bind g := (rfl)
@[simp] theorem ev_nil : nilM ρ = some [] := (rfl)
@[simp] theorem ev_cons : consM m ms ρ = (m ρ).bind fun d => (ms ρ).map fun ds => d :: ds := (rfl)
@[simp] theorem ev_tup : tupM ms ρ = (ms ρ).bind fun ds => if frzL ds = true ∧ ds.length ≤ LIM then some (.tup ds) else none := (rfl)
@[simp] theorem ev_lst : lstM ms ρ = (ms ρ).bind fun ds => if frzL ds = true ∧ ds.length ≤ LIM then some (.lst true ds) else none := (rfl)
@[simp] theorem ev_call : callM F ms ρ = (ms ρ).bind fun ds => (F (iceL ds)).bind fun r => if frzL ds = true ∨ isFlat r.1 = true then some r.1 else none := (rfl)
@[simp] theorem ev_callV : callVM F ms ρ = (ms ρ).bind fun ds => (F (iceL ds)).map (·.1) := (rfl)
@[simp] theorem ev_upF : upF m ρ = (m ρ).map fun d => (d, ρ) := (rfl)
@[simp] theorem ev_upR : upR m ρ = (m ρ).bind fun d => if frz d = true then some (d, ρ) else none := (rfl)
@[simp] theorem ev_cold : coldM m ρ = (m ρ).map ice := (rfl)
@[simp] theorem ev_fr : frM m ρ = (m ρ).bind fun d => if frz d = true then some d else none := (rfl)
@[simp] theorem ev_tru : truM m ρ = (m ρ).bind truD := (rfl)
@[simp] theorem ev_bM : bM m ρ = (m ρ).bind fun d => match d with | .bl b => some b | _ => none := (rfl)
@[simp] theorem ev_notB {b : BM} : notB b ρ = (b ρ).map not := (rfl)
@[simp] theorem ev_andB {a b : BM} : andB a b ρ = (a ρ).bind fun k => if k = true then b ρ else some false := (rfl)
@[simp] theorem ev_orB {a b : BM} : orB a b ρ = (a ρ).bind fun k => if k = true then some true else b ρ := (rfl)
@[simp] theorem ev_notD : notD m ρ = ((m ρ).bind truD).map fun k => .bl (!k) := (rfl)
@[simp] theorem ev_andM : andM ma mb ρ = (bM ma ρ).bind fun k => if k = true then mb ρ else some (.bl false) := (rfl)
@[simp] theorem ev_orM : orM ma mb ρ = (bM ma ρ).bind fun k => if k = true then some (.bl true) else mb ρ := (rfl)
@[simp] theorem ev_iteM {b : BM} : iteM b ma mb ρ = (b ρ).bind fun k => if k = true then ma ρ else mb ρ := (rfl)
@[simp] theorem ev_ch {f g : D → D → Option D} : chM f g ma mb mc ρ = (ma ρ).bind fun x => (mb ρ).bind fun y => (f x y).bind fun z => match z with | .bl true => (mc ρ).bind fun u => g y u | .bl false => some (.bl false) | _ => none := (rfl)
@[simp] theorem ev_mA {f : List D → Option D} : mA f ms ρ = (ms ρ).bind f := (rfl)
@[simp] theorem ev_isi {ty : String} : isiM ty m ρ = (m ρ).bind fun d => (tyD d).bind fun t => (kitB t ty).map .bl := (rfl)
@[simp] theorem ev_noM : noM ρ = some none := (rfl)
@[simp] theorem ev_soM : soM m ρ = (m ρ).bind fun d => match d with | .int i => some (some i) | _ => none := (rfl)
@[simp] theorem ev_slM {lo hi : OM} : slM m lo hi ρ = (m ρ).bind fun d => (lo ρ).bind fun l => (hi ρ).bind fun h => slD l h d := (rfl)
@[simp] theorem ev_it : itM m ρ = (m ρ).bind itemsD := (rfl)
@[simp] theorem ev_itV : itV m ρ = (m ρ).bind itemsV := (rfl)
@[simp] theorem ev_disp {mk mv : AM} : dispM mk mv ρ = (mk ρ).bind fun kds => (mv ρ).bind fun vds => (keyDs kds).bind fun ks => if ks.Nodup ∧ frzL vds = true ∧ ks.length ≤ 15 ∧ ks.length = vds.length then some (.dK true ks vds) else none := (rfl)
@[simp] theorem keyDs_nil : keyDs [] = some [] := (rfl)
@[simp] theorem keyDs_cons {d : D} {ds : List D} : keyDs (d :: ds) = (keyD d).bind fun k => (keyDs ds).map fun ks => k :: ks := (rfl)
@[simp] theorem keyD_int {i : Int} : keyD (.int i) = some (.inl i) := (rfl)
@[simp] theorem keyD_str {s : List Nat} : keyD (.str s) = some (.inr ⟨s.toArray⟩) := (rfl)
@[simp] theorem ev_enumS : enumSM m ρ = (m ρ).bind fun d => match d with | .str s => some (enumFrom 0 (strsD s)) | d => (lstD d).map (enumFrom 0) := (rfl)
@[simp] theorem ev_binV {g : GM} : binVG f i g ρ = (vM i ρ).bind fun _ => (g ρ).bind fun r => (vM i r.2).bind fun x => (f x r.1).map fun d => (d, r.2) := (rfl)
@[simp] theorem ev_rng1 : rng1M m ρ = (m ρ).bind rng1D := (rfl)
@[simp] theorem ev_rng2 : rng2M ma mb ρ = (ma ρ).bind fun x => (mb ρ).bind fun y => rng2D x y := (rfl)
@[simp] theorem ev_enum : enumM m ρ = (m ρ).bind fun d => (lstD d).map (enumFrom 0) := (rfl)
@[simp] theorem ev_zip : zipM ma mb ρ = (ma ρ).bind fun d1 => (mb ρ).bind fun d2 => (lstD d1).bind fun a => (lstD d2).map fun b => zipD a b := (rfl)
@[simp] theorem ev_rev : revM m ρ = (m ρ).bind fun d => (lstD d).map List.reverse := (rfl)
@[simp] theorem ev_comp {vs : List Nat} {f : TgM} {mc : BM} : compM vs f mc m ms ρ = (ms ρ).bind fun ds => if ds.length ≤ LIM then (compL f mc m (goneAt ρ vs) ds).map (.lst true) else none := (rfl)
@[simp] theorem ev_yes : yesB ρ = some true := (rfl)
@[simp] theorem ev_name : nameT i d ρ = some (ρ.set i d) := (rfl)
@[simp] theorem ev_tupT {f : List D → List D → Option (List D)} {ds : List D} : tupT f (.tup ds) ρ = f ds ρ := (rfl)
@[simp] theorem ev_consT {f : TgM} {g : List D → List D → Option (List D)} {ds : List D} : consT f g (d :: ds) ρ = (f d ρ).bind fun ρ => g ds ρ := (rfl)
@[simp] theorem ev_nilT : nilT [] ρ = some ρ := (rfl)
@[simp] theorem ev_gone0 : goneAt ρ [] = ρ := (rfl)
@[simp] theorem ev_gone1 {v : Nat} {vs : List Nat} : goneAt ρ (v :: vs) = (goneAt ρ vs).set v .gone := (rfl)
@[simp] theorem ev_vLget : (vL i).get ρ = (ρ[i]?).bind fun d => if notGone d = true then some d else none := (rfl)
@[simp] theorem ev_vLput : (vL i).put ρ d = ρ.set i d := (rfl)
@[simp] theorem ev_mv {L : Lens} : mvM L ρ = (L.get ρ).bind fun d => some (d, L.put ρ .gone) := (rfl)
@[simp] theorem ev_app {L : Lens} : appL L m ρ = (L.get ρ).bind fun d => (m ρ).bind fun y => match d with | .lst true ds => if ds.length < LIM then some (.non, L.put ρ (.lst true (ds ++ [y]))) else none | _ => none := (rfl)
@[simp] theorem ev_iceAt : iceAt i ρ = match ρ[i]? with | some d => ρ.set i (ice d) | none => ρ := (rfl)
@[simp] theorem ev_spNx {ρ' : List D} : maskL [] ρ' = [] := (rfl)
@[simp] theorem ev_mask {b : Bool} {bs : List Bool} {ds : List D} : maskL (b :: bs) (d :: ds) = (if b = true then d else .gone) :: maskL bs ds := (rfl)
@[simp] theorem ev_mask0 {b : Bool} {bs : List Bool} : maskL (b :: bs) [] = .gone :: maskL bs [] := (rfl)
end
@[simp] theorem ng_non : notGone .non = true := (rfl)
@[simp] theorem ng_gone : notGone .gone = false := (rfl)
@[simp] theorem ng_bl {b} : notGone (.bl b) = true := (rfl)
@[simp] theorem ng_int {b} : notGone (.int b) = true := (rfl)
@[simp] theorem ng_str {b} : notGone (.str b) = true := (rfl)
@[simp] theorem ng_scr {b} : notGone (.scr b) = true := (rfl)
@[simp] theorem ng_kst {b} : notGone (.kst b) = true := (rfl)
@[simp] theorem ng_tup {b} : notGone (.tup b) = true := (rfl)
@[simp] theorem ng_lst {o b} : notGone (.lst o b) = true := (rfl)
@[simp] theorem ng_dK {o k b} : notGone (.dK o k b) = true := (rfl)
@[simp] theorem ng_dT {o k b} : notGone (.dT o k b) = true := (rfl)
@[simp] theorem ng_obj {o k f b} : notGone (.obj o k f b) = true := (rfl)
@[simp] theorem fl_non : isFlat .non = true := (rfl)
@[simp] theorem fl_bl {b} : isFlat (.bl b) = true := (rfl)
@[simp] theorem fl_int {b} : isFlat (.int b) = true := (rfl)
@[simp] theorem fl_str {b} : isFlat (.str b) = true := (rfl)

@[simp] theorem inK_str {kvs z} : inK kvs (.str z) = some (.bl (kdGet kvs z).isSome) := (rfl)
@[simp] theorem ninK_str {kvs z} : ninK kvs (.str z) = some (.bl (!(kdGet kvs z).isSome)) := (rfl)
@[simp] theorem ixK_str {kvs z} : ixK kvs (.str z) = (kdGet kvs z).map D.str := (rfl)
/-! ### what is frozen -/
@[simp] theorem fz_gone : frz .gone = true := (rfl)
@[simp] theorem fz_non : frz .non = true := (rfl)
@[simp] theorem fz_bl {b} : frz (.bl b) = true := (rfl)
@[simp] theorem fz_int {b} : frz (.int b) = true := (rfl)
@[simp] theorem fz_str {b} : frz (.str b) = true := (rfl)
@[simp] theorem fz_scr {b} : frz (.scr b) = true := (rfl)
@[simp] theorem fz_kst {b} : frz (.kst b) = true := (rfl)
@[simp] theorem fz_tup {b} : frz (.tup b) = frzL b := (rfl)
@[simp] theorem fz_lst {o b} : frz (.lst o b) = (!o && frzL b) := (rfl)
@[simp] theorem fz_dK {o k b} : frz (.dK o k b) = (!o && frzL b) := (rfl)
@[simp] theorem fz_dT {o k b} : frz (.dT o k b) = (!o && frzL b) := (rfl)
@[simp] theorem fz_obj {o k f b} : frz (.obj o k f b) = (!o && frzL b) := (rfl)
@[simp] theorem fzL_nil : frzL [] = true := (rfl)
@[simp] theorem fzL_cons {d ds} : frzL (d :: ds) = (frz d && frzL ds) := (rfl)
@[simp] theorem frzL_map {α : Type} {f : α → D} {xs : List α} : frzL (xs.map f) = true ↔ ∀ x ∈ xs, frz (f x) = true := by simp [frzL_iff]
@[simp] theorem frzL_app {a b : List D} : frzL (a ++ b) = (frzL a && frzL b) := by
  rw [Bool.eq_iff_iff]; simp only [frzL_iff, List.mem_append, Bool.and_eq_true]
  exact ⟨fun h => ⟨fun d q => h d (.inl q), fun d q => h d (.inr q)⟩, fun h d q => q.elim (h.1 d) (h.2 d)⟩
@[simp] theorem ice_gone : ice .gone = .gone := (rfl)
@[simp] theorem ice_non : ice .non = .non := (rfl)
@[simp] theorem ice_bl {b} : ice (.bl b) = .bl b := (rfl)
@[simp] theorem ice_int {b} : ice (.int b) = .int b := (rfl)
@[simp] theorem ice_str {b} : ice (.str b) = .str b := (rfl)
@[simp] theorem ice_scr {b} : ice (.scr b) = .scr b := (rfl)
@[simp] theorem ice_kst {b} : ice (.kst b) = .kst b := (rfl)
@[simp] theorem ice_tup {b} : ice (.tup b) = .tup (iceL b) := (rfl)
@[simp] theorem ice_lst {o b} : ice (.lst o b) = .lst false (iceL b) := (rfl)
@[simp] theorem ice_dK {o k b} : ice (.dK o k b) = .dK false k (iceL b) := (rfl)
@[simp] theorem ice_dT {o k b} : ice (.dT o k b) = .dT false k (iceL b) := (rfl)
@[simp] theorem ice_obj {o k f b} : ice (.obj o k f b) = .obj false k f (iceL b) := (rfl)
@[simp] theorem iceL_nil : iceL [] = [] := (rfl)
@[simp] theorem iceL_cons {d ds} : iceL (d :: ds) = ice d :: iceL ds := (rfl)
theorem iceL_eq : ∀ {ds : List D}, iceL ds = ds.map ice
  | [] => rfl
  | d :: ds => by simp [iceL_eq (ds := ds)]
mutual
theorem ice_frz : ∀ d : D, frz d = true → ice d = d
  | .gone, _ | .non, _ | .bl _, _ | .int _, _ | .str _, _ | .scr _, _ | .kst _, _ | .key _, _ => rfl
  | .tup ds, h => by rw [ice_tup, iceL_frz ds h]
  | .lst true ds, h => by simp at h
  | .lst false ds, h => by rw [ice_lst, iceL_frz ds (by simpa using h)]
  | .dK true k ds, h => by simp at h
  | .dK false k ds, h => by rw [ice_dK, iceL_frz ds (by simpa using h)]
  | .dT true k ds, h => by simp at h
  | .dT false k ds, h => by rw [ice_dT, iceL_frz ds (by simpa using h)]
  | .obj true k f ds, h => by simp at h
  | .obj false k f ds, h => by rw [ice_obj, iceL_frz ds (by simpa using h)]
theorem iceL_frz : ∀ ds : List D, frzL ds = true → iceL ds = ds
  | [], _ => rfl
  | d :: ds, h => by
    simp at h
    rw [iceL_cons, ice_frz d h.1, iceL_frz ds h.2]
end
@[simp] theorem iceL_map {α : Type} {f : α → D} {xs : List α} : iceL (xs.map f) = xs.map fun x => ice (f x) := by rw [iceL_eq, List.map_map]; rfl
@[simp] theorem iceL_app {a b : List D} : iceL (a ++ b) = iceL a ++ iceL b := by simp [iceL_eq]
mutual
theorem frz_ice : ∀ d : D, frz (ice d) = true
  | .gone | .non | .bl _ | .int _ | .str _ | .scr _ | .kst _ | .key _ => rfl
  | .tup ds => by simpa using frzL_iceL ds
  | .lst _ ds => by simpa using frzL_iceL ds
  | .dK _ k ds => by simpa using frzL_iceL ds
  | .dT _ k ds => by simpa using frzL_iceL ds
  | .obj _ k f ds => by simpa using frzL_iceL ds
theorem frzL_iceL : ∀ ds : List D, frzL (iceL ds) = true
  | [] => rfl
  | d :: ds => by simp [frz_ice d, frzL_iceL ds]
end

/-! ### equal -/
mutual
theorem toP_ice : ∀ d : D, toP (ice d) = toP d
  | .gone | .non | .bl _ | .int _ | .str _ | .scr _ | .kst _ | .key _ => rfl
  | .tup ds => by simp only [ice_tup, toP, toPL_iceL ds]
  | .lst _ ds => by simp only [ice_lst, toP, toPL_iceL ds]
  | .dK _ k ds => rfl
  | .dT _ k ds => rfl
  | .obj _ k f ds => rfl
theorem toPL_iceL : ∀ ds : List D, toPL (iceL ds) = toPL ds
  | [] => rfl
  | d :: ds => by simp only [iceL_cons, toPL, toP_ice d, toPL_iceL ds]
end
/-- may be compared, at most n deep -/
def good (n : Nat) (d : D) : Bool := match toP d with
  | some p => p.canLay0 && decide (p.depth ≤ n)
  | none => false
def goodL (n : Nat) : List D → Bool
  | [] => true
  | d :: ds => good n d && goodL n ds
theorem good_some {n : Nat} {d : D} (h : good n d = true) : ∃ p, toP d = some p ∧ p.canLay0 = true ∧ p.depth ≤ n := by
  unfold good at h
  split at h
  · rename_i p e; simp at h; exact ⟨p, e, h.1, h.2⟩
  · cases h
theorem goodL_some {n : Nat} : ∀ {ds : List D}, goodL n ds = true → ∃ ps, toPL ds = some ps ∧ PyData.canLayAll0 ps = true ∧ PyData.depthAll ps ≤ n
  | [], _ => ⟨[], rfl, rfl, Nat.zero_le _⟩
  | d :: ds, h => by
    unfold goodL at h
    simp at h
    obtain ⟨p, e1, e2, e3⟩ := good_some h.1
    obtain ⟨ps, k1, k2, k3⟩ := goodL_some h.2
    refine ⟨p :: ps, by simp [toPL, e1, k1], by simp [PyData.canLayAll0, e2, k2], by simp [PyData.depthAll]; omega⟩
theorem good_lst {n : Nat} {o : Bool} {ds : List D} (h : goodL n ds = true) : good (n + 1) (.lst o ds) = true := by
  obtain ⟨ps, k1, k2, k3⟩ := goodL_some h
  simp [good, toP, k1, PyData.canLay0, k2, PyData.depth, k3]
theorem good_tup {n : Nat} {ds : List D} (h : goodL n ds = true) : good (n + 1) (.tup ds) = true := by
  obtain ⟨ps, k1, k2, k3⟩ := goodL_some h
  simp [good, toP, k1, PyData.canLay0, k2, PyData.depth, k3]
@[simp] theorem good_non {n} : good n .non = true := by simp [good, toP, PyData.canLay0, PyData.depth]
@[simp] theorem good_bl {n b} : good n (.bl b) = true := by simp [good, toP, PyData.canLay0, PyData.depth]
@[simp] theorem good_int {n b} : good n (.int b) = true := by simp [good, toP, PyData.canLay0, PyData.depth]
theorem goodL_iff {n : Nat} : ∀ {ds : List D}, goodL n ds = true ↔ ∀ d ∈ ds, good n d = true
  | [] => by simp [goodL]
  | d :: ds => by simp [goodL, goodL_iff (ds := ds)]
theorem eqB_same {a b : D} (h : ice a = ice b) (g : good 64 a = true) : eqB a b = some true := by
  obtain ⟨p, e1, e2, e3⟩ := good_some g
  have e4 : toP b = some p := by rw [← toP_ice, ← h, toP_ice, e1]
  have s : SeqAt.shaped p = true := by simp [SeqAt.shaped, e2, e3]
  simp [eqB, e1, e4, s, PySem.SeqAt.eqv_refl p e2]
theorem eqD_same {a b : D} (h : ice a = ice b) (g : good 64 a = true) : eqD a b = some (.bl true) := by simp [eqD, eqB_same h g]
theorem neD_same {a b : D} (h : ice a = ice b) (g : good 64 a = true) : neD a b = some (.bl false) := by simp [neD, eqB_same h g]
@[simp] theorem eqB_int {a b : Int} : eqB (.int a) (.int b) = some (a == b) := by simp [eqB, toP, SeqAt.shaped, PyData.canLay0, PyData.depth, PyData.eqv]
@[simp] theorem eqD_int {a b : Int} : eqD (.int a) (.int b) = some (.bl (a == b)) := by simp [eqD]
@[simp] theorem neD_int {a b : Int} : neD (.int a) (.int b) = some (.bl (a != b)) := by simp [neD, bne]
@[simp] theorem good_str {n : Nat} {b : List Nat} : good n (.str b) = b.all (fun k => decide (k < 0x110000)) := by
  simp [good, toP, PyData.canLay0, PyData.depth, PyData.strOk]
theorem goodL_map {α : Type} {n : Nat} {f : α → D} {xs : List α} : goodL n (xs.map f) = true ↔ ∀ x ∈ xs, good n (f x) = true := by simp [goodL_iff]
theorem str_inj {a b : List Nat} : ((⟨a.toArray⟩ : Str) == ⟨b.toArray⟩) = (a == b) := str_beq a b
theorem eqB_str {a b : List Nat} (ha : good 64 (.str a) = true) (hb : good 64 (.str b) = true) : eqB (.str a) (.str b) = some (a == b) := by
  obtain ⟨p, e1, e2, e3⟩ := good_some ha
  obtain ⟨q, k1, k2, k3⟩ := good_some hb
  cases e1; cases k1
  simp [eqB, toP, SeqAt.shaped, e2, e3, k2, k3, PyData.eqv, str_beq]

/-! ### operations -/
@[simp] theorem add_int {a b : Int} : addD (.int a) (.int b) = some (.int (a + b)) := (rfl)
@[simp] theorem sub_int {a b : Int} : subD (.int a) (.int b) = some (.int (a - b)) := (rfl)
@[simp] theorem add_str {a b : List Nat} : addD (.str a) (.str b) = if a.length + b.length ≤ LIM then some (.str (a ++ b)) else none := (rfl)
@[simp] theorem add_lst {o p : Bool} {a b : List D} : addD (.lst o a) (.lst p b) = if (frzL a && frzL b) = true ∧ a.length + b.length ≤ LIM then some (.lst true (a ++ b)) else none := (rfl)
@[simp] theorem add_tup {a b : List D} : addD (.tup a) (.tup b) = if (frzL a && frzL b) = true ∧ a.length + b.length ≤ LIM then some (.tup (a ++ b)) else none := (rfl)
@[simp] theorem mul_int {a b : Int} : mulD (.int a) (.int b) = if (-(2 ^ 64) < a ∧ a < 2 ^ 64) ∨ (-(2 ^ 64) < b ∧ b < 2 ^ 64) then some (.int (a * b)) else none := (rfl)
@[simp] theorem mul_lst {o : Bool} {a : List D} {k : Int} : mulD (.lst o a) (.int k) = if frzL a = true ∧ k ≤ 1000000 ∧ -1000000 ≤ k ∧ a.length * k.toNat ≤ LIM then some (.lst true (List.replicate k.toNat a).flatten) else none := (rfl)
@[simp] theorem mul_str {a : List Nat} {k : Int} : mulD (.str a) (.int k) = if k ≤ 1000000 ∧ -1000000 ≤ k ∧ a.length * k.toNat ≤ LIM then some (.str (List.replicate k.toNat a).flatten) else none := (rfl)
@[simp] theorem fdiv_int {a b : Int} : fdivD (.int a) (.int b) = if 0 < b ∧ b.natAbs.log2 < 9000 then some (.int (a / b)) else none := (rfl)
@[simp] theorem mod_int {a b : Int} : modD (.int a) (.int b) = if 0 < b then some (.int (a % b)) else none := (rfl)
@[simp] theorem pow_int {a b : Int} : powD (.int a) (.int b) = if 0 ≤ b ∧ b ≤ 1000000 ∧ a.natAbs < 2 ^ 64 then some (.int (a ^ b.toNat)) else none := (rfl)
@[simp] theorem neg_int {a : Int} : negD (.int a) = some (.int (-a)) := (rfl)
@[simp] theorem lt_int {a b : Int} : ltD (.int a) (.int b) = some (.bl (decide (a < b))) := (rfl)
@[simp] theorem le_int {a b : Int} : leD (.int a) (.int b) = some (.bl (decide (a ≤ b))) := (rfl)
@[simp] theorem gt_int {a b : Int} : gtD (.int a) (.int b) = some (.bl (decide (b < a))) := (rfl)
@[simp] theorem ge_int {a b : Int} : geD (.int a) (.int b) = some (.bl (decide (b ≤ a))) := (rfl)
@[simp] theorem lt_str {a b : List Nat} : ltD (.str a) (.str b) = some (.bl (decide (a < b))) := (rfl)
@[simp] theorem le_str {a b : List Nat} : leD (.str a) (.str b) = some (.bl (!decide (b < a))) := (rfl)
@[simp] theorem ix_lst {o : Bool} {ds : List D} {i : Int} : ixD (.lst o ds) (.int i) = atI ds i := (rfl)
@[simp] theorem ix_tup {ds : List D} {i : Int} : ixD (.tup ds) (.int i) = atI ds i := (rfl)
@[simp] theorem ix_scr {ds : List Int} {i : Int} : ixD (.scr ds) (.int i) = (atI ds i).map .int := (rfl)
@[simp] theorem ix_str {s : List Nat} {i : Int} : ixD (.str s) (.int i) = if s.length ≤ LIM then (atI s i).map fun k => .str [k] else none := (rfl)
theorem atI_at {α : Type} {xs : List α} {i : Int} (h : 0 ≤ i) (hl : i.toNat < xs.length) : atI xs i = some (xs[i.toNat]) := by
  unfold atI ixN
  have h1 : ¬ i < 0 := by omega
  have h2 : i < xs.length := by omega
  simp [h1, h, h2, hl]
@[simp] theorem atI_0 {α : Type} {x : α} {xs : List α} : atI (x :: xs) 0 = some x := by rw [atI_at (by omega) (by simp)]; rfl
@[simp] theorem atI_1 {α : Type} {x y : α} {xs : List α} : atI (x :: y :: xs) 1 = some y := by rw [atI_at (by omega) (by simp)]; rfl
@[simp] theorem atI_2 {α : Type} {x y z : α} {xs : List α} : atI (x :: y :: z :: xs) 2 = some z := by rw [atI_at (by omega) (by simp)]; rfl
@[simp] theorem atI_3 {α : Type} {x y z u : α} {xs : List α} : atI (x :: y :: z :: u :: xs) 3 = some u := by rw [atI_at (by omega) (by simp)]; rfl
@[simp] theorem atI_4 {α : Type} {x y z u v : α} {xs : List α} : atI (x :: y :: z :: u :: v :: xs) 4 = some v := by rw [atI_at (by omega) (by simp)]; rfl
@[simp] theorem len_tup {ds : List D} : lenD [.tup ds] = some (.int ds.length) := (rfl)
@[simp] theorem len_lst {o : Bool} {ds : List D} : lenD [.lst o ds] = some (.int ds.length) := (rfl)
@[simp] theorem len_scr {ds : List Int} : lenD [.scr ds] = some (.int ds.length) := (rfl)
@[simp] theorem len_dK {o k ds} : lenD [.dK o k ds] = some (.int k.length) := (rfl)
@[simp] theorem len_str {s : List Nat} : lenD [.str s] = if s.length ≤ LIM then some (.int s.length) else none := (rfl)
@[simp] theorem max2_int {i j : Int} : max2D [.int i, .int j] = some (.int (if j > i then j else i)) := (rfl)
@[simp] theorem min2_int {i j : Int} : min2D [.int i, .int j] = some (.int (if j < i then j else i)) := (rfl)
@[simp] theorem intD_int {i : Int} : intD [.int i] = some (.int i) := (rfl)
@[simp] theorem intD_bl {b : Bool} : intD [.bl b] = some (.int (if b then 1 else 0)) := (rfl)
@[simp] theorem sum_lst {o : Bool} {ds : List D} : sumD [.lst o ds] = (intsD ds).map fun is => .int is.sum := (rfl)
@[simp] theorem ints_nil : intsD [] = some [] := (rfl)
@[simp] theorem ints_cons {i : Int} {ds : List D} : intsD (.int i :: ds) = (intsD ds).map fun is => i :: is := (rfl)
@[simp] theorem ints_map {α : Type} {f : α → Int} : ∀ {xs : List α}, intsD (xs.map fun x => .int (f x)) = some (xs.map f)
  | [] => rfl
  | x :: xs => by simp [ints_map (xs := xs)]
@[simp] theorem list_lst {o : Bool} {ds : List D} : listD [.lst o ds] = if frzL ds = true then some (.lst true ds) else none := (rfl)
@[simp] theorem list_tup {ds : List D} : listD [.tup ds] = if frzL ds = true then some (.lst true ds) else none := (rfl)
@[simp] theorem list_scr {ns : List Int} : listD [.scr ns] = some (.lst true (ns.map .int)) := (rfl)
@[simp] theorem tru_bl {b : Bool} : truD (.bl b) = some b := (rfl)
@[simp] theorem tru_non : truD .non = some false := (rfl)
@[simp] theorem tru_int {i : Int} : truD (.int i) = some (i != 0) := (rfl)
@[simp] theorem tru_str {s : List Nat} : truD (.str s) = if s.length ≤ LIM then some (!s.isEmpty) else none := (rfl)
@[simp] theorem tru_tup {s : List D} : truD (.tup s) = some (!s.isEmpty) := (rfl)
@[simp] theorem tru_lst {o : Bool} {s : List D} : truD (.lst o s) = some (!s.isEmpty) := (rfl)
@[simp] theorem tru_scr {s : List Int} : truD (.scr s) = some (!s.isEmpty) := (rfl)
@[simp] theorem ty_non : tyD .non = some "NoneType" := (rfl)
@[simp] theorem ty_bl {b} : tyD (.bl b) = some "bool" := (rfl)
@[simp] theorem ty_int {b} : tyD (.int b) = some "int" := (rfl)
@[simp] theorem ty_str {b} : tyD (.str b) = some "str" := (rfl)
@[simp] theorem ty_scr {b} : tyD (.scr b) = some "list" := (rfl)
@[simp] theorem ty_lst {o b} : tyD (.lst o b) = some "list" := (rfl)
@[simp] theorem ty_tup {b} : tyD (.tup b) = some "tuple" := (rfl)
@[simp] theorem ty_dK {o k b} : tyD (.dK o k b) = some "dict" := (rfl)
@[simp] theorem ty_dT {o k b} : tyD (.dT o k b) = some "dict" := (rfl)
@[simp] theorem in_1 {k : Nat} {z : List Nat} : inB (.str [k]) (.str z) = some (decide (k ∈ z)) := (rfl)
@[simp] theorem inD_eq {x y : D} : inD x y = (inB x y).map .bl := (rfl)
@[simp] theorem ninD_eq {x y : D} : ninD x y = (inB x y).map fun k => .bl (!k) := (rfl)
@[simp] theorem itemsV_lst {o : Bool} {ds : List D} : itemsV (.lst o ds) = if frzL ds = true then some ds else none := (rfl)
@[simp] theorem itemsV_tup {ds : List D} : itemsV (.tup ds) = if frzL ds = true then some ds else none := (rfl)
@[simp] theorem itemsV_scr {ds : List Int} : itemsV (.scr ds) = some (ds.map .int) := (rfl)
@[simp] theorem itemsV_str {s : List Nat} : itemsV (.str s) = some (s.map fun k => .str [k]) := (rfl)
@[simp] theorem items_lst {ds : List D} : itemsD (.lst false ds) = if frzL ds = true then some ds else none := (rfl)
@[simp] theorem items_tup {ds : List D} : itemsD (.tup ds) = if frzL ds = true then some ds else none := (rfl)
@[simp] theorem items_scr {ds : List Int} : itemsD (.scr ds) = some (ds.map .int) := (rfl)
@[simp] theorem items_str {s : List Nat} : itemsD (.str s) = some (s.map fun k => .str [k]) := (rfl)
@[simp] theorem lstD_lst {ds : List D} : lstD (.lst false ds) = if frzL ds = true then some ds else none := (rfl)
@[simp] theorem lstD_scr {ds : List Int} : lstD (.scr ds) = some (ds.map .int) := (rfl)
@[simp] theorem sl_lst {o : Bool} {lo hi : Option Int} {ds : List D} : slD lo hi (.lst o ds) = if frzL ds = true then some (.lst true (cutL ds lo hi)) else none := (rfl)
@[simp] theorem sl_tup {lo hi : Option Int} {ds : List D} : slD lo hi (.tup ds) = if frzL ds = true then some (.tup (cutL ds lo hi)) else none := (rfl)
@[simp] theorem sl_scr {lo hi : Option Int} {ds : List Int} : slD lo hi (.scr ds) = some (.lst true ((cutL ds lo hi).map .int)) := (rfl)
@[simp] theorem sl_str {lo hi : Option Int} {ds : List Nat} : slD lo hi (.str ds) = if ds.length ≤ LIM then some (.str (cutL ds lo hi)) else none := (rfl)
theorem cut_to {α : Type} {xs : List α} {k : Int} (h : 0 ≤ k) : cutL xs none (some k) = xs.take k.toNat := by
  have : HT.sIx xs.length xs.length (some k) = min k.toNat xs.length := by
    unfold HT.sIx
    split <;> rename_i e <;> cases e <;> first | omega | (simp; omega) | skip
  unfold cutL
  rw [this]
  have e0 : HT.sIx xs.length 0 none = 0 := rfl
  rw [e0, List.drop_zero, Nat.sub_zero]
  rcases Nat.le_total k.toNat xs.length with q | q
  · rw [Nat.min_eq_left q]
  · rw [Nat.min_eq_right q, List.take_length, List.take_of_length_le q]
theorem cut_from {α : Type} {xs : List α} {k : Int} (h : 0 ≤ k) : cutL xs (some k) none = xs.drop k.toNat := by
  have : HT.sIx xs.length 0 (some k) = min k.toNat xs.length := by
    unfold HT.sIx
    split <;> rename_i e <;> cases e <;> first | omega | (simp; omega) | skip
  unfold cutL
  rw [this]
  have e0 : HT.sIx xs.length xs.length none = xs.length := rfl
  rw [e0]
  rcases Nat.le_total k.toNat xs.length with q | q
  · rw [Nat.min_eq_left q]; exact List.take_of_length_le (by simp)
  · rw [Nat.min_eq_right q]; simp [List.drop_of_length_le q]
theorem cut_fromto {α : Type} {xs : List α} {k j : Int} (h : 0 ≤ k) (h2 : 0 ≤ j) : cutL xs (some k) (some j) = (xs.drop k.toNat).take (j.toNat - k.toNat) := by
  have e1 : HT.sIx xs.length 0 (some k) = min k.toNat xs.length := by
    unfold HT.sIx
    split <;> rename_i e <;> cases e <;> first | omega | (simp; omega) | skip
  have e2 : HT.sIx xs.length xs.length (some j) = min j.toNat xs.length := by
    unfold HT.sIx
    split <;> rename_i e <;> cases e <;> first | omega | (simp; omega) | skip
  unfold cutL
  rw [e1, e2]
  rcases Nat.le_total k.toNat xs.length with q | q
  · rw [Nat.min_eq_left q]
    rcases Nat.le_total j.toNat xs.length with q2 | q2
    · rw [Nat.min_eq_left q2]
    · rw [Nat.min_eq_right q2, List.take_of_length_le (by simp), List.take_of_length_le (by simp; omega)]
  · rw [Nat.min_eq_right q]; simp [List.drop_of_length_le q]

/-! ### statements -/
theorem seq_nx {a b : SM} {ρ ρ1 : List D} (h : a ρ = some (.nx, ρ1)) : seqM a b ρ = b ρ1 := by simp [seqM, h]
theorem seq_rt {a b : SM} {ρ ρ1 : List D} {d : D} (h : a ρ = some (.rt d, ρ1)) : seqM a b ρ = some (.rt d, ρ1) := by simp [seqM, h]
theorem run_eq {n : Nat} {kp : List Bool} {m : SM} {ds ρ' : List D} {d : D} (hl : ds.length = kp.length) (h : m (ds ++ List.replicate (n - ds.length) .gone) = some (.rt d, ρ')) : runM n kp m ds = some (d, maskL kp ρ') := by unfold runM; rw [if_pos hl, h]; rfl
theorem run_nx {n : Nat} {kp : List Bool} {m : SM} {ds ρ' : List D} (hl : ds.length = kp.length) (h : m (ds ++ List.replicate (n - ds.length) .gone) = some (.nx, ρ')) : runM n kp m ds = some (.non, maskL kp ρ') := by unfold runM; rw [if_pos hl, h]; rfl
section
variable {f : TgM} {body : SM} {kl : List Nat}
/-- a loop that goes through to its end -/
theorem for_fold {α β : Type} (enc : α → D) (env : β → List D) (step : β → α → β) (Inv : β → Prop) : ∀ (xs : List α) (s : β), Inv s → (∀ s, Inv s → ∀ x ∈ xs, Inv (step s x) ∧ ∃ ρ1 fl ρ2, f (enc x) (env s) = some ρ1 ∧ body ρ1 = some (fl, ρ2) ∧ (fl = .nx ∨ fl = .ct) ∧ goneAt ρ2 kl = env (step s x)) →
    forL f body kl (xs.map enc) (env s) = some (.nx, env (xs.foldl step s)) ∧ Inv (xs.foldl step s)
  | [], s, hi, _ => ⟨rfl, hi⟩
  | x :: xs, s, hi, h => by
    obtain ⟨h1, ρ1, fl, ρ2, e1, e2, e3, e4⟩ := h s hi x (by simp)
    have ih := for_fold enc env step Inv xs (step s x) h1 fun s hs y hy => h s hs y (by simp [hy])
    refine ⟨?_, ih.2⟩
    rw [List.map_cons, List.foldl_cons]
    unfold forL
    rw [e1, Option.bind_some, e2, Option.bind_some]
    rcases e3 with rfl | rfl
    · simp only [e4]; exact ih.1
    · simp only [e4]; exact ih.1
/-- a comprehension -/
theorem comp_eq {α : Type} {mc : BM} {me : RM} {ρ0 : List D} (enc : α → D) (p : α → Bool) (g : α → D) : ∀ (xs : List α), (∀ x ∈ xs, ∃ ρ1, f (enc x) ρ0 = some ρ1 ∧ mc ρ1 = some (p x) ∧ (p x = true → me ρ1 = some (g x) ∧ frz (g x) = true)) →
    compL f mc me ρ0 (xs.map enc) = some ((xs.filter p).map g)
  | [], _ => rfl
  | x :: xs, h => by
    obtain ⟨ρ1, e1, e2, e3⟩ := h x (by simp)
    have ih := comp_eq enc p g xs fun y hy => h y (by simp [hy])
    rw [List.map_cons]
    unfold compL
    rw [e1, Option.bind_some, e2, Option.bind_some]
    cases hp : p x with
    | true =>
      obtain ⟨k1, k2⟩ := e3 hp
      simp [k1, k2, ih, hp]
    | false => simp [ih, hp]
theorem comp_all {α : Type} {me : RM} {ρ0 : List D} (enc : α → D) (g : α → D) (xs : List α) (h : ∀ x ∈ xs, ∃ ρ1, f (enc x) ρ0 = some ρ1 ∧ me ρ1 = some (g x) ∧ frz (g x) = true) : compL f yesB me ρ0 (xs.map enc) = some (xs.map g) := by
  have := comp_eq (f := f) (mc := yesB) (me := me) (ρ0 := ρ0) enc (fun _ => true) g xs fun x hx => by
    obtain ⟨ρ1, e1, e2, e3⟩ := h x hx
    exact ⟨ρ1, e1, rfl, fun _ => ⟨e2, e3⟩⟩
  rw [this]; congr 2; simp
end

end LI
namespace LI
open PySem L2

/-! ### the laws' own numbers -/
def mixM : SM := (seqM (ifM (bM (m2 gtD (vM 0) (m2 powD (kM (.int 10)) (kM (.int 18))))) (seqM (asgM (nameT 2) (upR (vM 0)))
  (seqM (forM (nameT 3) (asgM (nameT 2) (upF (m2 fdivD (vM 2) (m2 powD (kM (.int 10)) (kM (.int 9)))))) [3] (rng1M (vM 1)))
  (retM (upF (m2 modD (vM 2) (m2 powD (kM (.int 10)) (kM (.int 9)))))))) skipM)
  (seqM (asgM (nameT 4) (upF (coldM (m2 addD (m2 modD (vM 0) (kM (.int 2147483647))) (kM (.int 7919))))))
  (seqM (forM (nameT 3) (asgM (nameT 4) (upF (m2 modD (m2 addD (m2 mulD (vM 4) (kM (.int 48271))) (kM (.int 104729))) (kM (.int 2147483629))))) [3] (rng1M (m2 addD (vM 1) (kM (.int 2)))))
  (retM (upF (m2 fdivD (m2 modD (m2 mulD (vM 4) (vM 4)) (kM (.int 998244353))) (kM (.int 11))))))))
def mixF : FM := runM 5 [true, true] mixM
def mixBig : Nat → Int → Int
  | 0, r => r
  | n + 1, r => mixBig n (r / 1000000000)
def mixSmall : Nat → Int → Int
  | 0, r => r
  | n + 1, r => mixSmall n ((r * 48271 + 104729) % 2147483629)
def mixv (c : Int) (k : Nat) : Int := if c > 1000000000000000000 then mixBig k c % 1000000000 else let n := mixSmall (k + 2) (c % 2147483647 + 7919); n * n % 998244353 / 11
theorem mixv_pos (c : Int) (k : Nat) : 0 ≤ mixv c k := by
  unfold mixv
  split
  · omega
  · dsimp only
    generalize mixSmall (k + 2) (c % 2147483647 + 7919) * mixSmall (k + 2) (c % 2147483647 + 7919) = z
    omega
theorem mixv_lt (c : Int) (k : Nat) : mixv c k < 1000000000 := by
  unfold mixv
  split
  · omega
  · dsimp only
    generalize mixSmall (k + 2) (c % 2147483647 + 7919) * mixSmall (k + 2) (c % 2147483647 + 7919) = z
    omega
theorem mixSmall_in : ∀ (n : Nat) (r : Int), 0 ≤ r → r < 4294967296 → 0 ≤ mixSmall n r ∧ mixSmall n r < 4294967296
  | 0, r, h1, h2 => ⟨h1, h2⟩
  | n + 1, r, h1, h2 => mixSmall_in n _ (by omega) (by omega)
theorem upD_eq (lo : Int) (n : Nat) : upD lo n = (List.range n).map fun (k : Nat) => D.int (lo + (k : Int)) := rfl
theorem fold_big (r : Int) : ∀ n : Nat, (List.range n).foldl (fun s (_ : Nat) => s / 1000000000) r = mixBig n r := by
  intro n
  have : ∀ (xs : List Nat) (r : Int), xs.foldl (fun s (_ : Nat) => s / 1000000000) r = mixBig xs.length r := by
    intro xs
    induction xs with
    | nil => intro r; rfl
    | cons x xs ih => intro r; rw [List.foldl_cons, ih]; rfl
  rw [this, List.length_range]
theorem fold_small (r : Int) : ∀ n : Nat, (List.range n).foldl (fun s (_ : Nat) => (s * 48271 + 104729) % 2147483629) r = mixSmall n r := by
  intro n
  have : ∀ (xs : List Nat) (r : Int), xs.foldl (fun s (_ : Nat) => (s * 48271 + 104729) % 2147483629) r = mixSmall xs.length r := by
    intro xs
    induction xs with
    | nil => intro r; rfl
    | cons x xs ih => intro r; rw [List.foldl_cons, ih]; rfl
  rw [this, List.length_range]
theorem log_9 : Nat.log2 1000000000 < 9000 := by decide +kernel
theorem log_11 : Nat.log2 11 < 9000 := by decide +kernel
def mixStepA : SM := asgM (nameT 2) (upF (m2 fdivD (vM 2) (m2 powD (kM (.int 10)) (kM (.int 9)))))
def mixStepB : SM := asgM (nameT 4) (upF (m2 modD (m2 addD (m2 mulD (vM 4) (kM (.int 48271))) (kM (.int 104729))) (kM (.int 2147483629))))
theorem pow_109 : powD (.int 10) (.int 9) = some (.int 1000000000) := by simp
theorem pow_1018 : powD (.int 10) (.int 18) = some (.int 1000000000000000000) := by simp
theorem fdiv_109 (a : Int) : fdivD (.int a) (.int 1000000000) = some (.int (a / 1000000000)) := by
  rw [fdiv_int, if_pos ⟨by omega, log_9⟩]
theorem fdiv_11 (a : Int) : fdivD (.int a) (.int 11) = some (.int (a / 11)) := by
  rw [fdiv_int, if_pos ⟨by omega, log_11⟩]
theorem mixA_one (c k s x : Int) : mixStepA [.int c, .int k, .int s, .int x, .gone] = some (.nx, [.int c, .int k, .int (s / 1000000000), .int x, .gone]) := by
  simp [mixStepA, asgM, pow_109, fdiv_109, -pow_int, -fdiv_int]
theorem mixB_one (c k s x : Int) : mixStepB [.int c, .int k, .gone, .int x, .int s] = some (.nx, [.int c, .int k, .gone, .int x, .int ((s * 48271 + 104729) % 2147483629)]) := by
  simp [mixStepB, asgM]
theorem mixA_for (c : Int) (k : Nat) : forL (nameT 3) mixStepA [3] (upD 0 k) [.int c, .int k, .int c, .gone, .gone] = some (.nx, [.int c, .int k, .int (mixBig k c), .gone, .gone]) := by
  have := (for_fold (f := nameT 3) (kl := [3]) (body := mixStepA) (fun (j : Nat) => D.int (0 + (j : Int))) (fun (s : Int) => [.int c, .int k, .int s, .gone, .gone]) (fun s (_ : Nat) => s / 1000000000) (fun _ => True) (List.range k) c trivial fun s _ x _ => ⟨trivial, _, _, _, ev_name, mixA_one c k s _, .inl rfl, rfl⟩).1
  rw [fold_big] at this
  exact this
theorem mixB_for (c s0 : Int) (k j : Nat) : forL (nameT 3) mixStepB [3] (upD 0 j) [.int c, .int k, .gone, .gone, .int s0] = some (.nx, [.int c, .int k, .gone, .gone, .int (mixSmall j s0)]) := by
  have := (for_fold (f := nameT 3) (kl := [3]) (body := mixStepB) (fun (j : Nat) => D.int (0 + (j : Int))) (fun (s : Int) => [.int c, .int k, .gone, .gone, .int s]) (fun s (_ : Nat) => (s * 48271 + 104729) % 2147483629) (fun _ => True) (List.range j) s0 trivial fun s _ x _ => ⟨trivial, _, _, _, ev_name, mixB_one c k s _, .inl rfl, rfl⟩).1
  rw [fold_small] at this
  exact this
theorem mixM_eq : mixM = (seqM (ifM (bM (m2 gtD (vM 0) (m2 powD (kM (.int 10)) (kM (.int 18))))) (seqM (asgM (nameT 2) (upR (vM 0)))
  (seqM (forM (nameT 3) mixStepA [3] (rng1M (vM 1)))
  (retM (upF (m2 modD (vM 2) (m2 powD (kM (.int 10)) (kM (.int 9)))))))) skipM)
  (seqM (asgM (nameT 4) (upF (coldM (m2 addD (m2 modD (vM 0) (kM (.int 2147483647))) (kM (.int 7919))))))
  (seqM (forM (nameT 3) mixStepB [3] (rng1M (m2 addD (vM 1) (kM (.int 2)))))
  (retM (upF (m2 fdivD (m2 modD (m2 mulD (vM 4) (vM 4)) (kM (.int 998244353))) (kM (.int 11)))))))) := rfl
theorem mix_big (c : Int) (k : Nat) (hk : k ≤ 1000000) (hc : c > 1000000000000000000) : mixM [.int c, .int k, .gone, .gone, .gone] = some (.rt (.int (mixBig k c % 1000000000)), [.int c, .int k, .int (mixBig k c), .gone, .gone]) := by
  rw [mixM_eq]
  have hc' : (1000000000000000000 : Int) < c := hc
  have hk2 : rng1D (.int k) = some (upD 0 k) := rng1_nat (by omega)
  simp -implicitDefEqProofs [ifM, seqM, asgM, retM, forM, hc', hk2, mixA_for, pow_109, pow_1018, -pow_int]
theorem mix_small (c : Int) (k : Nat) (hk : k ≤ 1000000) (hc : ¬ c > 1000000000000000000) : mixM [.int c, .int k, .gone, .gone, .gone] = some (.rt (.int (mixSmall (k + 2) (c % 2147483647 + 7919) * mixSmall (k + 2) (c % 2147483647 + 7919) % 998244353 / 11)), [.int c, .int k, .gone, .gone, .int (mixSmall (k + 2) (c % 2147483647 + 7919))]) := by
  rw [mixM_eq]
  have hc' : ¬ (1000000000000000000 : Int) < c := hc
  have h0 := mixSmall_in (k + 2) (c % 2147483647 + 7919) (by omega) (by omega)
  have hk2 : rng1D (.int ((k : Int) + 2)) = some (upD 0 (k + 2)) := by rw [rng1_int (by omega) (by omega), show ((k : Int) + 2).toNat = k + 2 by omega]
  have hm : (-18446744073709551616 < mixSmall (k + 2) (c % 2147483647 + 7919) ∧ mixSmall (k + 2) (c % 2147483647 + 7919) < 18446744073709551616) := by omega
  simp -implicitDefEqProofs [ifM, seqM, asgM, retM, forM, skipM, hc', hk2, mixB_for, hm, pow_1018, fdiv_11, -pow_int, -fdiv_int]
theorem mix_eq (c : Int) (k : Nat) (hk : k ≤ 1000000) : mixF [.int c, .int k] = some (.int (mixv c k), [.int c, .int k]) := by
  by_cases hc : c > 1000000000000000000
  · have e : mixv c k = mixBig k c % 1000000000 := by unfold mixv; rw [if_pos hc]
    rw [e]
    exact run_eq (n := 5) (kp := [true, true]) (ds := [.int c, .int k]) rfl (mix_big c k hk hc)
  · have e : mixv c k = mixSmall (k + 2) (c % 2147483647 + 7919) * mixSmall (k + 2) (c % 2147483647 + 7919) % 998244353 / 11 := by unfold mixv; rw [if_neg hc]
    rw [e]
    exact run_eq (n := 5) (kp := [true, true]) (ds := [.int c, .int k]) rfl (mix_small c k hk hc)

/-- a loop that goes through to its end; r is how many are still to come -/
theorem for_foldI {α β : Type} {f : TgM} {body : SM} {kl : List Nat} (enc : α → D) (env : β → List D) (step : β → α → β) (Inv : Nat → β → Prop) : ∀ (xs : List α) (s : β), Inv xs.length s → (∀ r s, Inv (r + 1) s → ∀ x ∈ xs, Inv r (step s x) ∧ ∃ ρ1 fl ρ2, f (enc x) (env s) = some ρ1 ∧ body ρ1 = some (fl, ρ2) ∧ (fl = .nx ∨ fl = .ct) ∧ goneAt ρ2 kl = env (step s x)) →
    forL f body kl (xs.map enc) (env s) = some (.nx, env (xs.foldl step s)) ∧ Inv 0 (xs.foldl step s)
  | [], s, hi, _ => ⟨rfl, hi⟩
  | x :: xs, s, hi, h => by
    obtain ⟨h1, ρ1, fl, ρ2, e1, e2, e3, e4⟩ := h xs.length s hi x (by simp)
    have ih := for_foldI (f := f) (body := body) (kl := kl) enc env step Inv xs (step s x) h1 fun r s hs y hy => h r s hs y (by simp [hy])
    refine ⟨?_, ih.2⟩
    rw [List.map_cons, List.foldl_cons]
    unfold forL
    rw [e1, Option.bind_some, e2, Option.bind_some]
    rcases e3 with rfl | rfl
    · simp only [e4]; exact ih.1
    · simp only [e4]; exact ih.1
theorem fold_app {α β : Type} (g : α → β) : ∀ (xs : List α) (acc : List β), xs.foldl (fun s x => s ++ [g x]) acc = acc ++ xs.map g
  | [], acc => by simp
  | x :: xs, acc => by rw [List.foldl_cons, fold_app g xs]; simp
theorem for_at {f : TgM} {body : SM} {kl : List Nat} {ms : AM} {ρ ds : List D} (h : ms ρ = some ds) : forM f body kl ms ρ = forL f body kl ds ρ := by
  unfold forM; rw [h]; rfl
/-- a law's list, and the things it is made of -/
theorem scr_at {ns : List Int} {k : Nat} (h : k < ns.length) : (atI ns (k : Int)).map D.int = some (D.int ns[k]) := by
  rw [atI_at (by omega) (by simpa using h)]; rfl
def cellF : FM := runM 2 [true, true] (seqM (ifM (bM (m2 ltD (vM 1) (mA lenD (consM (vM 0) nilM)))) (retM (upR (m2 ixD (vM 0) (vM 1)))) skipM)
  (retM (upF (kM (.int 0)))))
theorem cell_eq (ns : List Int) (k : Nat) : cellF [.scr ns, .int k] = some (.int (ns.getD k 0), [.scr ns, .int k]) := by
  unfold cellF
  refine run_eq (ρ' := [.scr ns, .int k]) rfl ?_
  by_cases h : k < ns.length
  · refine seq_rt ?_
    simp -implicitDefEqProofs [ifM, retM, h, atI_at, List.getD_eq_getElem?_getD]
  · rw [seq_nx (ρ1 := [.scr ns, .int k]) (by simp -implicitDefEqProofs [ifM, skipM, h])]
    simp -implicitDefEqProofs [retM, h, List.getD_eq_getElem?_getD]
theorem upD0 (n : Nat) : upD 0 n = (List.range n).map fun (k : Nat) => D.int (k : Int) := by
  rw [upD_eq]; simp
theorem atI_nat {α : Type} {xs : List α} {k : Nat} (h : k < xs.length) : atI xs (k : Int) = some xs[k] := atI_at (by omega) (by simpa using h)
theorem rng_script {ns : List Int} {K : Int} {i : Nat} {ρ : List D} (h0 : 0 ≤ K) (h1 : K ≤ 1000000) (h : ρ[i]? = some (.scr ns)) : rng1M (mA lenD (consM (slM (vM i) noM (soM (kM (.int K)))) nilM)) ρ = some (upD 0 (min K.toNat ns.length)) := by
  have e : (mA lenD (consM (slM (vM i) noM (soM (kM (.int K)))) nilM)) ρ = some (.int ((min K.toNat ns.length : Nat) : Int)) := by
    rw [ev_mA, ev_cons, ev_slM, ev_v, h]
    simp -implicitDefEqProofs only [Option.bind_some, ng_scr, if_true, ev_noM, ev_soM, ev_k, sl_scr, ev_nil, Option.map_some, len_lst, List.length_map, cut_to h0, List.length_take]
  rw [ev_rng1, e, Option.bind_some, rng1_nat (by omega)]
theorem comp_at {vs : List Nat} {f : TgM} {mc : BM} {me : RM} {ms : AM} {ρ ds ys : List D} (h : ms ρ = some ds) (hl : ds.length ≤ LIM) (hc : compL f mc me (goneAt ρ vs) ds = some ys) : compM vs f mc me ms ρ = some (.lst true ys) := by
  rw [ev_comp, h, Option.bind_some, if_pos hl, hc]; rfl
theorem upD_len (lo : Int) (n : Nat) : (upD lo n).length = n := by rw [upD_eq]; simp
theorem asg_at {f : TgM} {g : GM} {ρ ρ1 ρ2 : List D} {d : D} (h : g ρ = some (d, ρ1)) (hf : f d ρ1 = some ρ2) : asgM f g ρ = some (.nx, ρ2) := by
  unfold asgM; rw [h, Option.bind_some, hf]; rfl
theorem ice_at {i : Nat} {m : SM} {ρ ρ1 : List D} (h : m ρ = some (.nx, ρ1)) : iceM i m ρ = some (.nx, iceAt i ρ1) := by
  unfold iceM; rw [h]; rfl
theorem upF_at {m : RM} {ρ : List D} {d : D} (h : m ρ = some d) : upF m ρ = some (d, ρ) := by rw [ev_upF, h]; rfl
theorem ret_at {g : GM} {ρ ρ1 : List D} {d : D} (h : g ρ = some (d, ρ1)) : retM g ρ = some (.rt d, ρ1) := by unfold retM; rw [h]; rfl
theorem if_F {mc : BM} {a b : SM} {ρ : List D} (h : mc ρ = some false) : ifM mc a b ρ = b ρ := by unfold ifM; rw [h]; rfl
theorem if_T {mc : BM} {a b : SM} {ρ : List D} (h : mc ρ = some true) : ifM mc a b ρ = a ρ := by unfold ifM; rw [h]; rfl
theorem if_no {mc : BM} {a : SM} {ρ : List D} (h : mc ρ = some false) : ifM mc a skipM ρ = some (.nx, ρ) := by rw [if_F h]; rfl
@[simp] theorem kit_int_int : kitB "int" "int" = some true := by decide +kernel
@[simp] theorem kit_int_bool : kitB "int" "bool" = some false := by decide +kernel
@[simp] theorem kit_int_str : kitB "int" "str" = some false := by decide +kernel
@[simp] theorem kit_int_list : kitB "int" "list" = some false := by decide +kernel
@[simp] theorem kit_int_tuple : kitB "int" "tuple" = some false := by decide +kernel
@[simp] theorem kit_int_dict : kitB "int" "dict" = some false := by decide +kernel
@[simp] theorem kit_bool_int : kitB "bool" "int" = some true := by decide +kernel
@[simp] theorem kit_bool_bool : kitB "bool" "bool" = some true := by decide +kernel
@[simp] theorem kit_bool_str : kitB "bool" "str" = some false := by decide +kernel
@[simp] theorem kit_bool_list : kitB "bool" "list" = some false := by decide +kernel
@[simp] theorem kit_bool_tuple : kitB "bool" "tuple" = some false := by decide +kernel
@[simp] theorem kit_bool_dict : kitB "bool" "dict" = some false := by decide +kernel
@[simp] theorem kit_str_int : kitB "str" "int" = some false := by decide +kernel
@[simp] theorem kit_str_bool : kitB "str" "bool" = some false := by decide +kernel
@[simp] theorem kit_str_str : kitB "str" "str" = some true := by decide +kernel
@[simp] theorem kit_str_list : kitB "str" "list" = some false := by decide +kernel
@[simp] theorem kit_str_tuple : kitB "str" "tuple" = some false := by decide +kernel
@[simp] theorem kit_str_dict : kitB "str" "dict" = some false := by decide +kernel
@[simp] theorem kit_list_int : kitB "list" "int" = some false := by decide +kernel
@[simp] theorem kit_list_bool : kitB "list" "bool" = some false := by decide +kernel
@[simp] theorem kit_list_str : kitB "list" "str" = some false := by decide +kernel
@[simp] theorem kit_list_list : kitB "list" "list" = some true := by decide +kernel
@[simp] theorem kit_list_tuple : kitB "list" "tuple" = some false := by decide +kernel
@[simp] theorem kit_list_dict : kitB "list" "dict" = some false := by decide +kernel
@[simp] theorem kit_tuple_int : kitB "tuple" "int" = some false := by decide +kernel
@[simp] theorem kit_tuple_bool : kitB "tuple" "bool" = some false := by decide +kernel
@[simp] theorem kit_tuple_str : kitB "tuple" "str" = some false := by decide +kernel
@[simp] theorem kit_tuple_list : kitB "tuple" "list" = some false := by decide +kernel
@[simp] theorem kit_tuple_tuple : kitB "tuple" "tuple" = some true := by decide +kernel
@[simp] theorem kit_tuple_dict : kitB "tuple" "dict" = some false := by decide +kernel
@[simp] theorem kit_dict_int : kitB "dict" "int" = some false := by decide +kernel
@[simp] theorem kit_dict_bool : kitB "dict" "bool" = some false := by decide +kernel
@[simp] theorem kit_dict_str : kitB "dict" "str" = some false := by decide +kernel
@[simp] theorem kit_dict_list : kitB "dict" "list" = some false := by decide +kernel
@[simp] theorem kit_dict_tuple : kitB "dict" "tuple" = some false := by decide +kernel
@[simp] theorem kit_dict_dict : kitB "dict" "dict" = some true := by decide +kernel
@[simp] theorem kit_NoneType_int : kitB "NoneType" "int" = some false := by decide +kernel
@[simp] theorem kit_NoneType_bool : kitB "NoneType" "bool" = some false := by decide +kernel
@[simp] theorem kit_NoneType_str : kitB "NoneType" "str" = some false := by decide +kernel
@[simp] theorem kit_NoneType_list : kitB "NoneType" "list" = some false := by decide +kernel
@[simp] theorem kit_NoneType_tuple : kitB "NoneType" "tuple" = some false := by decide +kernel
@[simp] theorem kit_NoneType_dict : kitB "NoneType" "dict" = some false := by decide +kernel
@[simp] theorem lim_ge (n : Nat) : (OfNat.ofNat n : Nat) ≤ LIM ↔ n ≤ 4000000 := Iff.rfl
@[simp] theorem lim_0 : 0 ≤ LIM := by decide
@[simp] theorem lim_1 : 1 ≤ LIM := by decide
end LI
/-! NA: more operations: freezing, lists at places, things lent. -/
namespace LI
open PySem L2

section
variable {X : Cx} {cl : Nat → Addr} {E : En} {e e0 a b o tg : Expr} {es : List Expr} {pos pos' p apos : Pos} {m mo ma mb : RM} {g : GM} {ms : AM} {n : Nat} {f nm x : Str} {L : Lens} {σ : L2.St}
/-- a name's thing is frozen from here on -/
def frzM (i : Nat) (m : SM) : SM := fun ρ => m (iceAt i ρ)
theorem s_frz (i : Nat) {m : SM} {sts : List Stmt} (h : PSs X sts (tS ⟨X.K, cl⟩ E m)) : PSs X sts (tS ⟨X.K, cl⟩ E (frzM i m)) := PSs_imp h fun D σ H ⟨P, S, ρ, fl, ρ', w, hm, q⟩ => by
  obtain ⟨P', S', w', ex⟩ := w.iceAt i
  exact ⟨P', S', _, fl, ρ', w', hm, q.mono ex⟩
/-- a list of fixed things at a place is changed -/
theorem lst_upd {c : LC} {P H : Hp} {S T : FP} {ρ : List D} {v : V} {ds : List D} {Sd R : FP} (w : Wd c E P S T σ H ρ) (l : Loc c L P H σ ρ S v (.lst true ds) Sd R) (hz : frzL ds = true) : ∃ a xs, v = .ref a ∧ H a = some (.lst xs) ∧ RepL c P H ds xs fz ∧
    ∀ (ys : List V) (es : List D), (∀ H', RepL c P H' es ys fz) → ∃ S', Wd c E P S' T σ (upd H a (.lst ys)) (L.put ρ (.lst true es)) ∧ ∀ b u, 0 < T b → H b = some u → upd H a (.lst ys) b = some u := by
  have w' : Wd c E P S (fa T fz) σ H ρ := by rw [fa_fz]; exact w
  obtain ⟨a, xs, T1, e1, hh, rl, hS, k⟩ := loc_lst w' l
  have z := RepL.frz0 ds xs T1 hz rl
  subst z
  refine ⟨a, xs, e1, hh, rl, fun ys es hr => ?_⟩
  have w2 := k ys es fz fz (hr _) fun b => by simp only [fz]; omega
  rw [fa_fz] at w2
  refine ⟨_, w2, fun b u hb hu => ?_⟩
  have : b ≠ a := fun q => by
    subst q
    have := w.le b; have := l.sum b; have := hS b
    simp [one] at *; omega
  rw [upd_ne this]; exact hu
theorem repL_any {c : LC} {P H : Hp} {ds : List D} {xs : List V} (r : RepL c P H ds xs fz) : ∀ H', RepL c P H' ds xs fz := fun H' => RepL.mono (.refl _) ds xs fz (fun a o h => by simp [fz] at h) r
theorem repL_take {c : LC} {P H : Hp} : ∀ {ds : List D} {xs : List V} (n : Nat), RepL c P H ds xs fz → RepL c P H (ds.take n) (xs.take n) fz
  | [], xs, n, r => by rw [r.1]; simp; exact ⟨rfl, rfl⟩
  | d :: ds, xs, 0, r => by simp; exact ⟨rfl, rfl⟩
  | d :: ds, xs, n + 1, ⟨y, ys, T, U, e, r, rs, f⟩ => by
    have hT : T = fz := by funext b; have := congrFun f b; simp only [fa, fz] at this ⊢; omega
    have hU : U = fz := by funext b; have := congrFun f b; simp only [fa, fz] at this ⊢; omega
    subst hT; subst hU; subst e
    exact ⟨y, ys.take n, fz, fz, rfl, r, repL_take n rs, (fa_fz fz).symm⟩
theorem repL_drop {c : LC} {P H : Hp} : ∀ {ds : List D} {xs : List V} (n : Nat), RepL c P H ds xs fz → RepL c P H (ds.drop n) (xs.drop n) fz
  | [], xs, n, r => by rw [r.1]; simp; exact ⟨rfl, rfl⟩
  | d :: ds, xs, 0, r => r
  | d :: ds, xs, n + 1, ⟨y, ys, T, U, e, r, rs, f⟩ => by
    have hU : U = fz := by funext b; have := congrFun f b; simp only [fa, fz] at this ⊢; omega
    subst hU; subst e
    exact repL_drop n rs
theorem repL_cat {c : LC} {P H : Hp} {ds es : List D} {xs ys : List V} (r : RepL c P H ds xs fz) (s : RepL c P H es ys fz) : RepL c P H (ds ++ es) (xs ++ ys) fz := by
  have := RepL.append r s
  rwa [fa_fz] at this
theorem repL_get {c : LC} {P H : Hp} {ds : List D} {xs : List V} {i : Nat} {d : D} (r : RepL c P H ds xs fz) (h : ds[i]? = some d) : ∃ v, xs[i]? = some v ∧ Rep c P H d v fz := by
  obtain ⟨v, Sd, R, h1, h2, h3, _⟩ := r.focus h
  refine ⟨v, h1, ?_⟩
  have : Sd = fz := by funext b; have := h3 b; simp only [fz] at this ⊢; omega
  rw [← this]; exact h2
theorem repL_rev {c : LC} {P H : Hp} : ∀ {ds : List D} {xs : List V}, RepL c P H ds xs fz → RepL c P H ds.reverse xs.reverse fz
  | [], xs, r => by rw [r.1]; exact ⟨rfl, rfl⟩
  | d :: ds, xs, ⟨y, ys, T, U, e, r, rs, f⟩ => by
    have hT : T = fz := by funext b; have := congrFun f b; simp only [fa, fz] at this ⊢; omega
    have hU : U = fz := by funext b; have := congrFun f b; simp only [fa, fz] at this ⊢; omega
    subst hT; subst hU; subst e
    rw [List.reverse_cons, List.reverse_cons]
    exact repL_cat (repL_rev rs) ⟨y, [], fz, fz, rfl, r, ⟨rfl, rfl⟩, (fa_fz fz).symm⟩
theorem repL_set {c : LC} {P H : Hp} {ds : List D} {xs : List V} {i : Nat} {d : D} {v : V} (r : RepL c P H ds xs fz) (h : i < ds.length) (hv : Rep c P H d v fz) : RepL c P H (ds.set i d) (xs.set i v) fz := by
  obtain ⟨v0, Sd, R, h1, h2, h3, h4⟩ := r.focus (List.getElem?_eq_getElem h)
  have : R = fz := by funext b; have := h3 b; simp only [fz] at this ⊢; omega
  subst this
  have := h4 P H d v fz (.refl _) (fun _ _ h => by simp [fz] at h) hv
  rwa [fa_fz] at this
/-! ### list methods without arguments -/
def clearL (L : Lens) : GM := fun ρ => (L.get ρ).bind fun d => match d with | .lst true ds => if frzL ds = true then some (.non, L.put ρ (.lst true [])) else none | _ => none
def revL (L : Lens) : GM := fun ρ => (L.get ρ).bind fun d => match d with | .lst true ds => if frzL ds = true then some (.non, L.put ρ (.lst true ds.reverse)) else none | _ => none
def popL (L : Lens) : GM := fun ρ => (L.get ρ).bind fun d => match d with | .lst true ds => if frzL ds = true then (ds[ds.length - 1]?).bind fun y => some (y, L.put ρ (.lst true ds.dropLast)) else none | _ => none
theorem lst_split {L : Lens} {ρ : List D} {f : List D → Option (D × List D)} {r : D × List D} (h : ((L.get ρ).bind fun d => match d with | .lst true ds => if frzL ds = true then f ds else none | _ => none) = some r) : ∃ ds, L.get ρ = some (.lst true ds) ∧ frzL ds = true ∧ f ds = some r := by
  cases e1 : L.get ρ with
  | none => rw [e1] at h; cases h
  | some d =>
    rw [e1, Option.bind_some] at h
    split at h
    · rename_i ds
      split at h
      · rename_i hz; exact ⟨ds, rfl, hz, h⟩
      · cases h
    · cases h
theorem g_clear (he : PE X o (tPl ⟨X.K, cl⟩ E L)) (hbase : attributeBase o "clear" X.env (eval o X.env) = eval o X.env := by rfl) (hline : (apos.endLine == pos.line) = true := by rfl) : PE X (.Call (.Attribute o "clear" apos) [] [] pos) (tG ⟨X.K, cl⟩ E (clearL L)) :=
  PE_imp (pe_bm0 PySem.F.plainAttrs_list PySem.F.slot_list_clear PySem.F.type_list_clear mt_clear he hbase hline) fun σ H Q ⟨P, S, T, ρ, d, ρ', w, hm, q⟩ => by
    obtain ⟨ds, e1, hz, e2⟩ := lst_split (f := fun _ => some (.non, L.put ρ (.lst true []))) hm
    cases e2
    refine ⟨P, S, T, ρ, _, w, e1, fun v Sd R l => ?_⟩
    obtain ⟨a, xs, ev, hh, rl, k⟩ := lst_upd w l hz
    obtain ⟨S', w2, kT⟩ := k [] [] fun _ => ⟨rfl, rfl⟩
    refine ⟨by rw [ev]; exact .inl ⟨rfl, xs, .inl (.inl hh)⟩, a, xs, ev, rfl, hh, ?_⟩
    exact q .non _ P S' fz (by rw [fa_fz]; exact w2) (.refl _) ⟨rfl, rfl⟩ kT
theorem g_rev (he : PE X o (tPl ⟨X.K, cl⟩ E L)) (hbase : attributeBase o "reverse" X.env (eval o X.env) = eval o X.env := by rfl) (hline : (apos.endLine == pos.line) = true := by rfl) : PE X (.Call (.Attribute o "reverse" apos) [] [] pos) (tG ⟨X.K, cl⟩ E (revL L)) :=
  PE_imp (pe_bm0 PySem.F.plainAttrs_list PySem.F.slot_list_reverse PySem.F.type_list_reverse mt_reverse he hbase hline) fun σ H Q ⟨P, S, T, ρ, d, ρ', w, hm, q⟩ => by
    obtain ⟨ds, e1, hz, e2⟩ := lst_split (f := fun ds => some (.non, L.put ρ (.lst true ds.reverse))) hm
    cases e2
    refine ⟨P, S, T, ρ, _, w, e1, fun v Sd R l => ?_⟩
    obtain ⟨a, xs, ev, hh, rl, k⟩ := lst_upd w l hz
    obtain ⟨S', w2, kT⟩ := k xs.reverse ds.reverse fun H' => repL_rev (repL_any rl H')
    refine ⟨by rw [ev]; exact .inl ⟨rfl, xs, .inl (.inl hh)⟩, a, xs, ev, rfl, hh, ?_⟩
    exact q .non _ P S' fz (by rw [fa_fz]; exact w2) (.refl _) ⟨rfl, rfl⟩ kT
theorem g_pop (he : PE X o (tPl ⟨X.K, cl⟩ E L)) (hbase : attributeBase o "pop" X.env (eval o X.env) = eval o X.env := by rfl) (hline : (apos.endLine == pos.line) = true := by rfl) : PE X (.Call (.Attribute o "pop" apos) [] [] pos) (tG ⟨X.K, cl⟩ E (popL L)) :=
  PE_imp (pe_bm0 PySem.F.plainAttrs_list PySem.F.slot_list_pop PySem.F.type_list_pop mt_pop he hbase hline) fun σ H Q ⟨P, S, T, ρ, d, ρ', w, hm, q⟩ => by
    obtain ⟨ds, e1, hz, e2⟩ := lst_split (f := fun ds => (ds[ds.length - 1]?).bind fun y => some (y, L.put ρ (.lst true ds.dropLast))) hm
    cases ey : ds[ds.length - 1]? with
    | none => rw [ey] at e2; cases e2
    | some y =>
      rw [ey] at e2
      cases e2
      refine ⟨P, S, T, ρ, _, w, e1, fun v Sd R l => ?_⟩
      obtain ⟨a, xs, ev, hh, rl, k⟩ := lst_upd w l hz
      obtain ⟨S', w2, kT⟩ := k xs.dropLast ds.dropLast fun H' => by
        rw [List.dropLast_eq_take, List.dropLast_eq_take, ← rl.length]; exact repL_take _ (repL_any rl H')
      obtain ⟨z, hz1, hz2⟩ := repL_get rl ey
      refine ⟨by rw [ev]; exact .inl ⟨rfl, xs, .inl (.inl hh)⟩, a, xs, z, ev, rfl, hh, by rw [← rl.length]; exact hz1, ?_⟩
      exact q z _ P S' fz (by rw [fa_fz]; exact w2) (.refl _) (Rep.mono (.refl _) d z fz (fun _ _ h => by simp [fz] at h) hz2) kT
/-! ### xs.extend(what is looked at) -/
def extR (L : Lens) (m : RM) : GM := fun ρ => (L.get ρ).bind fun d => (m ρ).bind fun y => match d, y with
  | .lst true ds, .lst _ ys => if frzL ds = true ∧ frzL ys = true ∧ ds.length + ys.length ≤ LIM then some (.non, L.put ρ (.lst true (ds ++ ys))) else none
  | _, _ => none
theorem ext_split {L : Lens} {m : RM} {ρ : List D} {r : D × List D} (h : extR L m ρ = some r) : ∃ ds o ys, L.get ρ = some (.lst true ds) ∧ m ρ = some (.lst o ys) ∧ frzL ds = true ∧ frzL ys = true ∧ ds.length + ys.length ≤ LIM ∧ r = (.non, L.put ρ (.lst true (ds ++ ys))) := by
  unfold extR at h
  cases e1 : L.get ρ with
  | none => rw [e1] at h; cases h
  | some d =>
    cases e2 : m ρ with
    | none => rw [e1, e2] at h; cases h
    | some y =>
      rw [e1, e2, Option.bind_some, Option.bind_some] at h
      split at h
      · rename_i ds o ys
        split at h
        · rename_i hc; cases h; exact ⟨ds, o, ys, rfl, rfl, hc.1, hc.2.1, hc.2.2, rfl⟩
        · cases h
      · cases h
theorem g_extR (he : PE X o (tPl ⟨X.K, cl⟩ E L)) (ha : PE X e (tR ⟨X.K, cl⟩ E m))
    (hbase : attributeBase o "extend" X.env (eval o X.env) = eval o X.env := by rfl)
    (hfew : ((backTo pos (starEach [e] X.env)).all (fun x => !x.1) && (backToKw pos (keywordEach [] X.env)).all (fun x => x.1.isSome)
      && decide ([e].length + ([] : List Keyword).length + (if ([] : List Keyword).isEmpty then 0 else 1) < 30)) = true := by rfl)
    (hline : (apos.endLine == pos.line) = true := by rfl) (hs : starEach [e] X.env = (false, eval e X.env) :: starEach [] X.env := by rfl) : PE X (.Call (.Attribute o "extend" apos) [e] [] pos) (tG ⟨X.K, cl⟩ E (extR L m)) := by
  refine PE_imp (pe_bm PySem.F.plainAttrs_list PySem.F.slot_list_extend PySem.F.type_list_extend mt_extend he (pa_cons ha pa_nil hs) hbase hfew hline hs) fun σ H Q ⟨P, S, T, ρ, d, ρ', w, hm, q⟩ => ?_
  obtain ⟨ds, o', ys, e1, e2, hz, hy, hl, e3⟩ := ext_split hm
  cases e3
  refine ⟨P, S, T, ρ, _, w, e1, fun v Sd R l => ?_⟩
  obtain ⟨a0, xs0, ev0, hh0, _, _⟩ := lst_upd w l hz
  refine ⟨by rw [ev0]; exact .inl ⟨rfl, xs0, .inl (.inl hh0)⟩, P, S, T, ρ, _, w, e2, fun z H1 P1 U1 g1 r1 => ?_⟩
  have w1 := w.grow g1
  obtain ⟨a, xs, ev, hh, rl, k⟩ := lst_upd w1 (l.grow g1) hz
  obtain ⟨p2, zs, ez, hz2, rz⟩ := lst_heap0 g1.ph r1 hy
  refine ⟨a, p2, xs, zs, ev, by rw [ez], hh, hz2, by rw [← rl.length, ← rz.length]; exact lim_le hl, ?_⟩
  obtain ⟨S', w2, kT⟩ := k (xs ++ zs) (ds ++ ys) fun H' => repL_cat (repL_any rl H') (repL_any rz H')
  exact q .non _ P1 S' fz (by rw [fa_fz]; exact w2) g1.p ⟨rfl, rfl⟩ fun b u hb hu => kT b u hb (g1.h b u hu)
end
end LI
/-! NB: xs[i] = e; things lent to a def. -/
namespace LI
open PySem L2

section
variable {X : Cx} {cl : Nat → Addr} {E : En} {e e0 a b o i tg : Expr} {es : List Expr} {pos pos' p apos : Pos} {m mo ma mb mi : RM} {g : GM} {ms ms1 ms2 : AM} {n : Nat} {f nm x : Str} {L : Lens} {σ : L2.St} {CX : CXT} {k : Nat} {fad : Addr} {fd : FuncData} {ps : List Str} {F : FM} {XE : XK}
/-! ### xs[i] = e -/
def storeM (L : Lens) (mi : RM) (g : GM) : SM := fun ρ => (g ρ).bind fun r => (L.get r.2).bind fun l => (mi r.2).bind fun k => match l, k with
  | .lst true ds, .int j => if frzL ds = true ∧ frz r.1 = true then (ixN ds.length j).map fun j => (.nx, L.put r.2 (.lst true (ds.set j r.1))) else none
  | _, _ => none
theorem store_split {ρ : List D} {r : Fl × List D} (h : storeM L mi g ρ = some r) : ∃ d ρ1 ds k j, g ρ = some (d, ρ1) ∧ L.get ρ1 = some (.lst true ds) ∧ mi ρ1 = some (.int k) ∧ frzL ds = true ∧ frz d = true ∧ ixN ds.length k = some j ∧ r = (.nx, L.put ρ1 (.lst true (ds.set j d))) := by
  unfold storeM at h
  cases e1 : g ρ with
  | none => rw [e1] at h; cases h
  | some r1 =>
    obtain ⟨d, ρ1⟩ := r1
    rw [e1, Option.bind_some] at h
    dsimp only at h
    cases e2 : L.get ρ1 with
    | none => rw [e2] at h; cases h
    | some l =>
      cases e3 : mi ρ1 with
      | none => rw [e2, e3] at h; cases h
      | some k =>
        rw [e2, e3, Option.bind_some, Option.bind_some] at h
        split at h
        · rename_i ds j
          split at h
          · rename_i hc
            cases e4 : ixN ds.length j with
            | none => rw [e4] at h; cases h
            | some j' => rw [e4] at h; cases h; exact ⟨d, ρ1, ds, j, j', rfl, e2, e3, hc.1, hc.2, e4, rfl⟩
          · cases h
        · cases h
theorem ixN_lt {n : Nat} {i : Int} {j : Nat} (h : ixN n i = some j) : j < n := (ixN_seq h).2.1
theorem s_store (he : PE X e (tG ⟨X.K, cl⟩ E g)) (ho : PE X o (tPl ⟨X.K, cl⟩ E L)) (hi : PE X i (tR ⟨X.K, cl⟩ E mi)) (hs : swapsWithSole [.Subscript o i pos'] e pos.line X.env = pure false := by rfl) (hw : swappedStores [.Subscript o i pos'] e X.env = pure none := by rfl)
    (h1 : (assignEach [.Subscript o i pos'] X.env).map (·.2) = [assign (.Subscript o i pos') X.env] := by rfl)
    (hsub : ∀ v, assign (.Subscript o i pos') X.env v = (do
      let ov ← holding [v] (eval o X.env)
      let iv ← holding [v, ov] (eval i X.env)
      standAt pos'
      holding [v, ov, iv] (setItem ov iv v)
      release [v, ov, iv] []) := by intro _; rfl) : PS X (.Assign [.Subscript o i pos'] e pos) (tS ⟨X.K, cl⟩ E (storeM L mi g)) :=
  PS_imp (ps_asg he (pg_sub ho hi set_list hsub) hs hw h1) fun D σ H ⟨P, S, ρ, fl, ρ', w, hm, q⟩ => by
    obtain ⟨d, ρ1, ds, k, j, eg, el, ei, hz, hd, hj, e3⟩ := store_split hm
    cases e3
    refine g_run w eg fun y H1 P1 S1 U w1 ex r1 => ?_
    have hU := Rep.frz0 d y U hd r1
    subst hU
    refine ⟨P1, S1, fz, ρ1, _, w1, el, fun v Sd R l => ?_⟩
    refine ⟨P1, S1, fz, ρ1, _, w1, ei, fun iv H2 P2 U2 g2 r2 => ?_⟩
    obtain ⟨a, xs, ev, hh, rl, kk⟩ := lst_upd (w1.grow g2) (l.grow g2) hz
    have hjl := ixN_lt hj
    obtain ⟨S', w2, kT⟩ := kk (xs.set j y) (ds.set j d) fun H' => repL_set (repL_any rl H') hjl (Rep.mono g2.p d y fz (fun _ _ h => by simp [fz] at h) r1)
    refine ⟨a, xs, k, j, ev, r2.1, hh, by rw [← rl.length]; exact hj, ?_⟩
    exact q σ _ P2 S' w2 (ex.trans g2.p)
/-! ### things lent -/
def tAL (c : LC) (E : En) (ms1 : AM) (L : Lens) (ms2 : AM) : TA := fun σ H Q => ∃ P S T ρ ds1 d ds2, Wd c E P S T σ H ρ ∧ ms1 ρ = some ds1 ∧ L.get ρ = some d ∧ ms2 ρ = some ds2 ∧
  ∀ vs1 v vs2 H' P' U1 U2 Sd R, Gr P H P' H' → RepL c P' H' ds1 vs1 U1 → Loc c L P' H' σ ρ S v d Sd R → RepL c P' H' ds2 vs2 U2 → Q (vs1 ++ v :: vs2) H'
theorem al_here (he : PE X e (tPl ⟨X.K, cl⟩ E L)) (ha : PA X es (tAR ⟨X.K, cl⟩ E ms2)) (hs : starEach (e :: es) X.env = (false, eval e X.env) :: starEach es X.env := by rfl) : PA X (e :: es) (tAL ⟨X.K, cl⟩ E nilM L ms2) :=
  PA_imp (pa_cons he ha hs) fun σ H Q ⟨P, S, T, ρ, ds1, d, ds2, w, e1, e2, e3, q⟩ => by
    cases e1
    exact ⟨P, S, T, ρ, d, w, e2, fun v Sd R l => ⟨P, S, T, ρ, ds2, w, e3, fun vs H1 P1 U1 g1 r1 => q [] v vs H1 P1 fz U1 Sd R g1 ⟨rfl, rfl⟩ (l.grow g1) r1⟩⟩
theorem al_next (he : PE X e (tR ⟨X.K, cl⟩ E m)) (ha : PA X es (tAL ⟨X.K, cl⟩ E ms1 L ms2)) (hs : starEach (e :: es) X.env = (false, eval e X.env) :: starEach es X.env := by rfl) : PA X (e :: es) (tAL ⟨X.K, cl⟩ E (consM m ms1) L ms2) :=
  PA_imp (pa_cons he ha hs) fun σ H Q ⟨P, S, T, ρ, ds1, d, ds2, w, e1, e2, e3, q⟩ => by
    rw [ev_cons] at e1
    cases z1 : m ρ with
    | none => rw [z1] at e1; cases e1
    | some d0 =>
      cases z2 : ms1 ρ with
      | none => rw [z1, z2] at e1; cases e1
      | some ds0 =>
        rw [z1, z2] at e1
        cases e1
        refine ⟨P, S, T, ρ, d0, w, z1, fun v0 H1 P1 U0 g1 r0 => ⟨P1, S, T, ρ, ds0, d, ds2, w.grow g1, z2, e2, e3, fun vs1 v vs2 H2 P2 U1 U2 Sd R g2 r1 l r2 => ?_⟩⟩
        exact q (v0 :: vs1) v vs2 H2 P2 (fa U0 U1) U2 Sd R (g1.trans g2) ⟨v0, vs1, U0, U1, rfl, r0.gr g2, r1, rfl⟩ l r2
def lendM (F : FM) (ms1 : AM) (L : Lens) (ms2 : AM) : GM := fun ρ => (ms1 ρ).bind fun ds1 => (L.get ρ).bind fun d => (ms2 ρ).bind fun ds2 => if frzL ds1 = true ∧ frzL ds2 = true then (F (ds1 ++ d :: ds2)).bind fun r => (r.2[ds1.length]?).map fun d' => (r.1, L.put ρ d') else none
theorem lend_split {ρ : List D} {r : D × List D} (h : lendM F ms1 L ms2 ρ = some r) : ∃ ds1 d ds2 d1 ds' d', ms1 ρ = some ds1 ∧ L.get ρ = some d ∧ ms2 ρ = some ds2 ∧ frzL ds1 = true ∧ frzL ds2 = true ∧ F (ds1 ++ d :: ds2) = some (d1, ds') ∧ ds'[ds1.length]? = some d' ∧ r = (d1, L.put ρ d') := by
  unfold lendM at h
  cases e1 : ms1 ρ with
  | none => rw [e1] at h; cases h
  | some ds1 =>
    cases e2 : L.get ρ with
    | none => rw [e1, e2] at h; cases h
    | some d =>
      cases e3 : ms2 ρ with
      | none => rw [e1, e2, e3] at h; cases h
      | some ds2 =>
        rw [e1, e2, e3, Option.bind_some, Option.bind_some, Option.bind_some] at h
        split at h
        · rename_i hc
          cases e4 : F (ds1 ++ d :: ds2) with
          | none => rw [e4] at h; cases h
          | some rr =>
            obtain ⟨d1, ds'⟩ := rr
            rw [e4, Option.bind_some] at h
            dsimp only at h
            cases e5 : ds'[ds1.length]? with
            | none => rw [e5] at h; cases h
            | some d' => rw [e5] at h; cases h; exact ⟨ds1, d, ds2, d1, ds', d', rfl, rfl, rfl, hc.1, hc.2, e4, e5, rfl⟩
        · cases h
theorem g_lend (G : FnOk X.prog X.w X.K X.mg X.base CX k fad fd ps (spD ⟨X.K, cl⟩ F)) (hr : Room k X.A) (hg : Gl X x) (hm : X.mg x = some (.ref fad)) (hk : PySem.W.keepIn X.K (.ref fad) = true) (hb : Binds X.K fd ps []) (hx : Passes CX X XE)
    (ha : PA X (e :: es) (tAL ⟨X.K, cl⟩ E ms1 L ms2)) (hdb : (x == ("__debug__" : Str)) = false := by decide) (he : starEach (e :: es) X.env = (false, eval e X.env) :: starEach es X.env := by rfl) (hpl : (backTo pos (starEach es X.env)).any (·.1) = false := by rfl) :
    PE X (.Call (.Name x p) (e :: es) [] pos) (tG ⟨X.K, cl⟩ E (lendM F ms1 L ms2)) := PE_imp (pe_call G hr hg hm hk hb .nil hx ha hdb he hpl) fun σ H Q ⟨P, S, T, ρ, d1, ρ', w, hm, q⟩ => by
  obtain ⟨ds1, d, ds2, d2, ds', d', e1, e2, e3, z1, z2, e4, e5, e6⟩ := lend_split hm
  cases e6
  refine ⟨P, S, T, ρ, ds1, d, ds2, w, e1, e2, e3, fun vs1 v vs2 H1 P1 U1 U2 Sd R g1 r1 l r2 => ?_⟩
  have y1 := RepL.frz0 ds1 vs1 U1 z1 r1
  have y2 := RepL.frz0 ds2 vs2 U2 z2 r2
  subst y1; subst y2
  have w1 := w.grow g1
  show spD ⟨X.K, cl⟩ F ((vs1 ++ v :: vs2) ++ []) H1 Q XE
  rw [List.append_nil]
  have rall : RepL ⟨X.K, cl⟩ P1 H1 (ds1 ++ d :: ds2) (vs1 ++ v :: vs2) (fa fz (fa Sd fz)) := RepL.append r1 ⟨v, vs2, Sd, fz, rfl, l.rep, r2, rfl⟩
  rw [fa_fz, fz_fa] at rall
  refine ⟨P1, Sd, _, _, ds', rall, g1.ph, fun b => by have := w.le b; have := l.sum b; omega, fun b hb => w1.out b (by have := l.sum b; omega), e4, fun v2 H2 P2 U S' st rd rl => ?_⟩
  obtain ⟨v', Sd', R', h1, h2, h3, _⟩ := rl.focus e5
  have hv : v' = v := by
    rw [r1.length, List.getElem?_append_right (Nat.le_refl _), Nat.sub_self] at h1
    simpa using h1.symm
  subst hv
  have henv := l.put P2 H2 d' Sd' st.p0 (fun b u hb hu => st.fr b u (by have := w.le b; have := l.sum b; omega) hu) h2
  have w2 := w1.through l.sum st henv (U := U) (fun b => by have := h3 b; simp only [fa]; omega) (Rep.there d1 v2 U rd)
  exact q v2 H2 P2 _ U w2 (g1.p.trans st.p0) rd fun b u hb hu => st.fr b u (by have := w.le b; have := l.sum b; omega) (g1.h b u hu)
end
end LI
/-! PA: changes inside expressions and tests; written dicts. -/
namespace LI
open PySem L2

section
variable {X : Cx} {cl : Nat → Addr} {E : En} {e a b o i : Expr} {pos p apos cpos : Pos} {g ga gb : GM} {m ma mb mc mk mv : RM} {r : R2} {f : D → D → Option D}
/-! ### two-place operations with changes -/
def bin2G (f : D → D → Option D) (ga gb : GM) : GM := fun ρ => (ga ρ).bind fun r => (gb r.2).bind fun s => (f r.1 s.1).map fun d => (d, s.2)
theorem bin2_run (hf : Op2 ⟨X.K, cl⟩ r f) {σ : L2.St} {H : Hp} {Q : VK} (h : tG ⟨X.K, cl⟩ E (bin2G f ga gb) σ H Q) : tOp r (tG ⟨X.K, cl⟩ E ga) (tG ⟨X.K, cl⟩ E gb) σ H Q := by
  obtain ⟨P, S, T, ρ, d, ρ', w, hm, q⟩ := h
  unfold bin2G at hm
  cases ea : ga ρ with
  | none => rw [ea] at hm; cases hm
  | some ra =>
    obtain ⟨da, ρ1⟩ := ra
    rw [ea, Option.bind_some] at hm
    cases eb : gb ρ1 with
    | none => rw [eb] at hm; cases hm
    | some rb =>
      obtain ⟨db, ρ2⟩ := rb
      rw [eb, Option.bind_some] at hm
      cases ed : f da db with
      | none => rw [ed] at hm; cases hm
      | some d1 =>
        rw [ed] at hm
        cases hm
        refine ⟨P, S, T, ρ, da, ρ1, w, ea, fun x H1 P1 S1 U1 w1 x1 r1 k1 => ⟨P1, S1, fa T U1, ρ1, db, ρ2, w1, eb, fun y H2 P2 S2 U2 w2 x2 r2 k2 => ?_⟩⟩
        refine hf P2 H2 w2.ph da db d x y U1 U2 ed (Rep.mono x2 da x U1 (fun b u z1 z2 => k2 b u (by simp only [fa]; omega) z2) r1) r2 Q fun z H3 P3 U3 g3 r3 u1 u2 => ?_
        have w3 := ((w2.drop).drop).aside g3 u1 u2 (Rep.there d z U3 r3)
        exact q z H3 P3 S2 U3 w3 ((x1.trans x2).trans g3.p) r3 fun b u z1 z2 => g3.h b u (k2 b u (by simp only [fa]; omega) (k1 b u z1 z2))
theorem g_bin2 {op : Operator} (ho : OpR X (binaryOp op) r) (hf : Op2 ⟨X.K, cl⟩ r f) (ha : PE X a (tG ⟨X.K, cl⟩ E ga)) (hb : PE X b (tG ⟨X.K, cl⟩ E gb)) : PE X (.BinOp a op b pos) (tG ⟨X.K, cl⟩ E (bin2G f ga gb)) :=
  PE_imp (pe_op ho ha hb) fun _ _ _ h => bin2_run hf h
theorem g_cmp2 {op : CmpOp} (ho : OpR X (compareOp op) r) (hf : Op2 ⟨X.K, cl⟩ r f) (ha : PE X a (tG ⟨X.K, cl⟩ E ga)) (hb : PE X b (tG ⟨X.K, cl⟩ E gb)) (hm : behindInMarks op b = false) : PE X (.Compare a [op] [b] pos) (tG ⟨X.K, cl⟩ E (bin2G f ga gb)) :=
  PE_imp (pe_cmpR ho ha hb hm) fun _ _ _ h => bin2_run hf h
/-! ### tests with changes -/
def bG (g : GM) : BGM := fun ρ => (g ρ).bind fun r => match r.1 with | .bl k => some (k, r.2) | _ => none
theorem bG_some {ρ ρ' : List D} {k : Bool} (h : bG g ρ = some (k, ρ')) : g ρ = some (.bl k, ρ') := by
  unfold bG at h
  cases e : g ρ with
  | none => rw [e] at h; cases h
  | some r =>
    obtain ⟨d, ρ1⟩ := r
    rw [e, Option.bind_some] at h
    cases d with
    | bl j => cases h; rfl
    | _ => cases h
theorem tg_cmp2 {op : CmpOp} (ho : OpR X (compareOp op) r) (hf : Op2 ⟨X.K, cl⟩ r f) (ha : PE X a (tG ⟨X.K, cl⟩ E ga)) (hb : PE X b (tG ⟨X.K, cl⟩ E gb)) (hm : behindInMarks op b = false) : PT X (.Compare a [op] [b] pos) (tTG ⟨X.K, cl⟩ E (bG (bin2G f ga gb))) :=
  PT_imp (pt_cmpR ho ha hb hm) fun σ H Q ⟨P, S, T, ρ, k, ρ', w, hm, q⟩ => bin2_run hf ⟨P, S, T, ρ, .bl k, ρ', w, bG_some hm, fun v H' P' S' U w' x r kT => ⟨k, r.1, q H' P' S' w'.drop x kT⟩⟩
def truG (g : GM) : BGM := fun ρ => (g ρ).bind fun r => (truD r.1).map fun k => (k, r.2)
theorem tg_val (ha : PE X a (tG ⟨X.K, cl⟩ E g)) (he : ∀ whole, isTrue a X.env whole = (do let v ← whole; standAt a.pos; holding [v] (truthy v)) := by intro _; rfl) : PT X a (tTG ⟨X.K, cl⟩ E (truG g)) :=
  PT_imp (pt_truth ha he) fun σ H Q ⟨P, S, T, ρ, k, ρ', w, hm, q⟩ => by
    unfold truG at hm
    cases ea : g ρ with
    | none => rw [ea] at hm; cases hm
    | some r =>
      obtain ⟨d, ρ1⟩ := r
      rw [ea, Option.bind_some] at hm
      cases ed : truD d with
      | none => rw [ed] at hm; cases hm
      | some j =>
        rw [ed] at hm
        cases hm
        exact ⟨P, S, T, ρ, d, _, w, ea, fun v H' P' S' U w' x r kT => ⟨_, truD_v w'.ph ed r, q H' P' S' w'.drop x kT⟩⟩
def notG (m : BGM) : BGM := fun ρ => (m ρ).map fun r => (!r.1, r.2)
def andG (ma mb : BGM) : BGM := fun ρ => (ma ρ).bind fun r => if r.1 = true then mb r.2 else some (false, r.2)
def orG (ma mb : BGM) : BGM := fun ρ => (ma ρ).bind fun r => if r.1 = true then some (true, r.2) else mb r.2
theorem tg_not {m : BGM} (h : PT X a (tTG ⟨X.K, cl⟩ E m)) : PT X (.UnaryOp .Not a pos) (tTG ⟨X.K, cl⟩ E (notG m)) := PT_imp (pt_not h) fun σ H Q ⟨P, S, T, ρ, b, ρ', w, hm, q⟩ => by
  unfold notG at hm
  cases ea : m ρ with
  | none => rw [ea] at hm; cases hm
  | some r =>
    obtain ⟨k, ρ1⟩ := r
    rw [ea] at hm
    cases hm
    exact ⟨P, S, T, ρ, k, _, w, ea, fun H' P' S' w' x kT => q H' P' S' w' x kT⟩
theorem wg_and1 {m : BGM} (h : PT X a (tTG ⟨X.K, cl⟩ E m)) : PW X (.BoolOp .And [a] pos) (tTG ⟨X.K, cl⟩ E m) := pw_and1 h
theorem wg_or1 {m : BGM} (h : PT X a (tTG ⟨X.K, cl⟩ E m)) : PW X (.BoolOp .Or [a] pos) (tTG ⟨X.K, cl⟩ E m) := pw_or1 h
theorem wg_and {ma mb : BGM} {rest : List Expr} (h : PT X a (tTG ⟨X.K, cl⟩ E ma)) (k : PW X (.BoolOp .And (b :: rest) pos) (tTG ⟨X.K, cl⟩ E mb)) : PW X (.BoolOp .And (a :: b :: rest) pos) (tTG ⟨X.K, cl⟩ E (andG ma mb)) :=
  PW_imp (pw_and h k) fun σ H Q ⟨P, S, T, ρ, j, ρ', w, hm, q⟩ => by
    unfold andG at hm
    cases ea : ma ρ with
    | none => rw [ea] at hm; cases hm
    | some r =>
      obtain ⟨ka, ρ1⟩ := r
      rw [ea, Option.bind_some] at hm
      refine ⟨P, S, T, ρ, ka, ρ1, w, ea, fun H' P' S' w' x kT => ?_⟩
      cases ka with
      | true =>
        replace hm : mb ρ1 = some (j, ρ') := hm
        exact iteT ⟨P', S', T, ρ1, j, ρ', w', hm, fun H2 P2 S2 w2 x2 kT2 => q H2 P2 S2 w2 (x.trans x2) fun b u z1 z2 => kT2 b u z1 (kT b u z1 z2)⟩
      | false =>
        cases hm
        exact iteF (q H' P' S' w' x kT)
theorem wg_or {ma mb : BGM} {rest : List Expr} (h : PT X a (tTG ⟨X.K, cl⟩ E ma)) (k : PW X (.BoolOp .Or (b :: rest) pos) (tTG ⟨X.K, cl⟩ E mb)) : PW X (.BoolOp .Or (a :: b :: rest) pos) (tTG ⟨X.K, cl⟩ E (orG ma mb)) :=
  PW_imp (pw_or h k) fun σ H Q ⟨P, S, T, ρ, j, ρ', w, hm, q⟩ => by
    unfold orG at hm
    cases ea : ma ρ with
    | none => rw [ea] at hm; cases hm
    | some r =>
      obtain ⟨ka, ρ1⟩ := r
      rw [ea, Option.bind_some] at hm
      refine ⟨P, S, T, ρ, ka, ρ1, w, ea, fun H' P' S' w' x kT => ?_⟩
      cases ka with
      | true =>
        cases hm
        exact iteT (q H' P' S' w' x kT)
      | false =>
        replace hm : mb ρ1 = some (j, ρ') := hm
        exact iteF ⟨P', S', T, ρ1, j, ρ', w', hm, fun H2 P2 S2 w2 x2 kT2 => q H2 P2 S2 w2 (x.trans x2) fun b u z1 z2 => kT2 b u z1 (kT b u z1 z2)⟩
theorem tg_w {m : BGM} (h : PW X a (tTG ⟨X.K, cl⟩ E m)) : PT X a (tTG ⟨X.K, cl⟩ E m) := h.pt
/-! ### and, or as values, with changes -/
def andV (ga gb : GM) : GM := fun ρ => (bG ga ρ).bind fun r => if r.1 = true then gb r.2 else some (.bl false, r.2)
def orV (ga gb : GM) : GM := fun ρ => (bG ga ρ).bind fun r => if r.1 = true then some (.bl true, r.2) else gb r.2
theorem g_one {op} (h : PE X a (tG ⟨X.K, cl⟩ E g)) : PE X (.BoolOp op [a] pos) (tG ⟨X.K, cl⟩ E g) := pe_one h
theorem g_and {rest : List Expr} (ha : PE X a (tG ⟨X.K, cl⟩ E ga)) (hb : PE X (.BoolOp .And (b :: rest) pos) (tG ⟨X.K, cl⟩ E gb)) : PE X (.BoolOp .And (a :: b :: rest) pos) (tG ⟨X.K, cl⟩ E (andV ga gb)) := PE_imp (pe_and ha hb) fun σ H Q ⟨P, S, T, ρ, d, ρ', w, hm, q⟩ => by
  unfold andV at hm
  cases ea : bG ga ρ with
  | none => rw [ea] at hm; cases hm
  | some r =>
    obtain ⟨k, ρ1⟩ := r
    rw [ea, Option.bind_some] at hm
    refine ⟨P, S, T, ρ, .bl k, ρ1, w, bG_some ea, fun v H1 P1 S1 U w1 x1 r1 kT => ⟨k, r1.1, ?_⟩⟩
    cases k with
    | true =>
      replace hm : gb ρ1 = some (d, ρ') := hm
      exact iteT ⟨P1, S1, T, ρ1, d, ρ', w1.drop, hm, fun v H2 P2 S2 U2 w2 x2 r2 k2 => q v H2 P2 S2 U2 w2 (x1.trans x2) r2 fun b u z1 z2 => k2 b u z1 (kT b u z1 z2)⟩
    | false =>
      cases hm
      refine iteF (q _ H1 P1 S1 fz ?_ x1 ⟨rfl, rfl⟩ kT)
      rw [fa_fz]; exact w1.drop
theorem g_or {rest : List Expr} (ha : PE X a (tG ⟨X.K, cl⟩ E ga)) (hb : PE X (.BoolOp .Or (b :: rest) pos) (tG ⟨X.K, cl⟩ E gb)) : PE X (.BoolOp .Or (a :: b :: rest) pos) (tG ⟨X.K, cl⟩ E (orV ga gb)) := PE_imp (pe_or ha hb) fun σ H Q ⟨P, S, T, ρ, d, ρ', w, hm, q⟩ => by
  unfold orV at hm
  cases ea : bG ga ρ with
  | none => rw [ea] at hm; cases hm
  | some r =>
    obtain ⟨k, ρ1⟩ := r
    rw [ea, Option.bind_some] at hm
    refine ⟨P, S, T, ρ, .bl k, ρ1, w, bG_some ea, fun v H1 P1 S1 U w1 x1 r1 kT => ⟨k, r1.1, ?_⟩⟩
    cases k with
    | false =>
      replace hm : gb ρ1 = some (d, ρ') := hm
      exact iteF ⟨P1, S1, T, ρ1, d, ρ', w1.drop, hm, fun v H2 P2 S2 U2 w2 x2 r2 k2 => q v H2 P2 S2 U2 w2 (x1.trans x2) r2 fun b u z1 z2 => k2 b u z1 (kT b u z1 z2)⟩
    | true =>
      cases hm
      refine iteT (q _ H1 P1 S1 fz ?_ x1 ⟨rfl, rfl⟩ kT)
      rw [fa_fz]; exact w1.drop
end
end LI
/-! PC: what stands under a key; a dict changed. -/
namespace LI
open PySem L2

section
variable {c : LC} {P H : Hp}
theorem dk_heap (e : Ex P H) {o : Bool} {ks : List Key} {ds : List D} {v : V} {U : FP} (r : Rep c P H (.dK o ks ds) v U) : ∃ a xs T, v = .ref a ∧ H a = some (.dK (ks.zip xs)) ∧ ks.length = xs.length ∧ RepL c P H ds xs T ∧ ∀ b, T b ≤ U b := by
  cases o with
  | true =>
    obtain ⟨a, xs, T, e1, h, n, rl, f⟩ := r
    exact ⟨a, xs, T, e1, h, n, rl, fun b => by rw [f]; simp only [fa]; omega⟩
  | false =>
    obtain ⟨a, xs, e1, h, n, rl⟩ := r
    exact ⟨a, xs, U, e1, e _ _ h, n, rl, fun b => Nat.le_refl _⟩
theorem valV_under {ks : List Key} {ds : List D} {xs : List V} {T : FP} (n : ks.length = xs.length) (rl : RepL c P H ds xs T) (k : Key) : match under ks ds k with
    | some d => ∃ x T', valV (ks.zip xs) k = some x ∧ Rep c P H d x T' ∧ ∀ b, T' b ≤ T b
    | none => valV (ks.zip xs) k = none := by
  cases z : under ks ds k with
  | some d =>
    obtain ⟨x, T', h1, h2, h3⟩ := under_rep rl n z
    exact ⟨x, T', by unfold valV; rw [h1]; rfl, h2, h3⟩
  | none => exact under_none rl n z
end
section
variable {X : Cx} {cl : Nat → Addr} {E : En} {e a b o i f0 : Expr} {pos p apos cpos pos' : Pos} {m ma mb mc mk mv mi : RM} {g : GM} {L : Lens}
theorem hr_units {n : Nat} (h : n + 64 < cLine) : n + 1 < cLine := by omega
/-- d.get(k, x) -/
def getD2 : D → D → D → Option D
  | .dK _ ks ds, k, x => (keyD k).map fun k => (under ks ds k).getD x
  | _, _, _ => none
def getM2 (ma mb mc : RM) : RM := fun ρ => (ma ρ).bind fun d => (mb ρ).bind fun k => (mc ρ).bind fun x => getD2 d k x
def getM1 (ma mb : RM) : RM := getM2 ma mb (kM .non)
theorem getD2_split {d k x r : D} (h : getD2 d k x = some r) : ∃ o ks ds k', d = .dK o ks ds ∧ keyD k = some k' ∧ r = (under ks ds k').getD x := by
  cases d with
  | dK o ks ds =>
    replace h : (keyD k).map (fun k => (under ks ds k).getD x) = some r := h
    cases e : keyD k with
    | none => rw [e] at h; cases h
    | some k' => rw [e] at h; cases h; exact ⟨o, ks, ds, k', rfl, rfl, rfl⟩
  | _ => cases h
theorem getM2_split {ρ : List D} {r : D} (h : getM2 ma mb mc ρ = some r) : ∃ o ks ds dk k x, ma ρ = some (.dK o ks ds) ∧ mb ρ = some dk ∧ keyD dk = some k ∧ mc ρ = some x ∧ r = (under ks ds k).getD x := by
  unfold getM2 at h
  cases e1 : ma ρ with
  | none => rw [e1] at h; cases h
  | some d =>
    cases e2 : mb ρ with
    | none => rw [e1, e2] at h; cases h
    | some dk =>
      cases e3 : mc ρ with
      | none => rw [e1, e2, e3] at h; cases h
      | some x =>
        rw [e1, e2, e3] at h
        obtain ⟨o, ks, ds, k, rfl, e4, e5⟩ := getD2_split h
        exact ⟨o, ks, ds, dk, k, x, rfl, rfl, e4, rfl, e5⟩
theorem r_get2 (hu : X.A.units + 1 < cLine) (ho : PE X o (tR ⟨X.K, cl⟩ E ma)) (he : PE X e (tR ⟨X.K, cl⟩ E mb)) (hf : PE X f0 (tR ⟨X.K, cl⟩ E mc)) (hm : M2 X o "get" apos e f0 cpos := by exact ⟨rfl, rfl, rfl, rfl⟩) : PE X (.Call (.Attribute o "get" apos) [e, f0] [] cpos) (tR ⟨X.K, cl⟩ E (getM2 ma mb mc)) :=
  PE_imp (pe_dget2 hu ho he hf hm) fun σ H Q ⟨P, S, T, ρ, d, w, hm, q⟩ => by
    obtain ⟨o, ks, ds, dk, k, x, e1, e2, e3, e4, rfl⟩ := getM2_split hm
    refine ⟨P, S, T, ρ, _, w, e1, fun v H1 P1 U1 g1 r1 => ?_⟩
    obtain ⟨a, xs, T1, rfl, h1, n1, rl, _⟩ := dk_heap g1.ph r1
    refine ⟨a, rfl, .inl ⟨_, .inl h1⟩, P1, S, T, ρ, dk, w.grow g1, e2, fun y H2 P2 U2 g2 r2 => ?_⟩
    obtain rfl := keyD_v e3 r2
    refine ⟨P2, S, T, ρ, x, w.grow (g1.trans g2), e4, fun z H3 P3 U3 g3 r3 => ?_⟩
    refine ⟨valV (ks.zip xs) k, DGet.k (g3.h _ _ (g2.h _ _ h1)), ?_⟩
    have hv := valV_under n1 (rl.gr (g2.trans g3)) k
    cases hz : under ks ds k with
    | some d =>
      rw [hz] at hv q
      obtain ⟨x', T', hx, hr, _⟩ := hv
      rw [hx]
      exact q _ _ _ _ ((g1.trans g2).trans g3) hr
    | none =>
      rw [hz] at hv q
      rw [hv]
      exact q _ _ _ _ ((g1.trans g2).trans g3) r3
theorem r_get1 (hu : X.A.units + 1 < cLine) (ho : PE X o (tR ⟨X.K, cl⟩ E ma)) (he : PE X e (tR ⟨X.K, cl⟩ E mb)) (hm : M1 X o "get" apos e cpos := by exact ⟨rfl, rfl, rfl, rfl⟩) : PE X (.Call (.Attribute o "get" apos) [e] [] cpos) (tR ⟨X.K, cl⟩ E (getM1 ma mb)) :=
  PE_imp (pe_dget1 hu ho he hm) fun σ H Q ⟨P, S, T, ρ, d, w, hm, q⟩ => by
    obtain ⟨o, ks, ds, dk, k, x, e1, e2, e3, e4, rfl⟩ := getM2_split hm
    cases e4
    refine ⟨P, S, T, ρ, _, w, e1, fun v H1 P1 U1 g1 r1 => ?_⟩
    obtain ⟨a, xs, T1, rfl, h1, n1, rl, _⟩ := dk_heap g1.ph r1
    refine ⟨a, rfl, .inl ⟨_, .inl h1⟩, P1, S, T, ρ, dk, w.grow g1, e2, fun y H2 P2 U2 g2 r2 => ?_⟩
    obtain rfl := keyD_v e3 r2
    refine ⟨valV (ks.zip xs) k, DGet.k (g2.h _ _ h1), ?_⟩
    have hv := valV_under n1 (rl.gr g2) k
    cases hz : under ks ds k with
    | some d =>
      rw [hz] at hv q
      obtain ⟨x', T', hx, hr, _⟩ := hv
      rw [hx]
      exact q _ _ _ _ (g1.trans g2) hr
    | none =>
      rw [hz] at hv q
      rw [hv]
      exact q _ _ _ fz (g1.trans g2) ⟨rfl, rfl⟩
/-- d[k] = e -/
def putKD : List Key → List D → Key → D → List Key × List D
  | k0 :: ks, d0 :: ds, k, d => if k0 = k then (k0 :: ks, d :: ds) else ((k0 :: (putKD ks ds k d).1), (d0 :: (putKD ks ds k d).2))
  | _, _, k, d => ([k], [d])
end
end LI
/-! PE: a place frozen for what comes. -/
namespace LI
open PySem L2

/-- a place that the data alone tell -/
class LOk (L : Lens) : Prop where
  ok : ∀ (c : LC) (P H : Hp) (ρ : List D) (σ : L2.St) (S : FP) (d : D), Ex P H → RepE c P H ρ σ S → L.get ρ = some d → ∃ v Sd R, Loc c L P H σ ρ S v d Sd R
instance {i : Nat} : LOk (vL i) := ⟨fun c P H ρ σ S d e r h => by
  obtain ⟨h1, h2⟩ := vL_get h
  obtain ⟨v, Sd, R, k1, k2, k3, k4⟩ := r.focus h1 h2
  exact ⟨v, Sd, R, ⟨k3, k2, k4⟩⟩⟩
instance {n : Nat} {f : Str} {L : Lens} [LOk L] : LOk (fldL n f L) := ⟨fun c P H ρ σ S d e r hg => by
  obtain ⟨o, fs, ds, j, h1, h2, h3, h4, h5⟩ := fld_split hg
  obtain ⟨v, Sd, R, l⟩ := LOk.ok (L := L) c P H ρ σ S _ e r h1
  obtain ⟨a, dx, xs, T1, Z, e1, hh, nl, rl, hz, hput⟩ := obj_heap e l.rep
  obtain ⟨y, S1, R1, k1, k2, k3, k4⟩ := rl.focus h3
  refine ⟨y, S1, fa (fa Z R1) R, ⟨fun b => ?_, k2, fun P2 H2 d2 S2 ep kr r2 => ?_⟩⟩
  · have := l.sum b; have := hz b; have := k3 b; simp only [fa]; omega
  · rw [h5]
    have rl2 := k4 P2 H2 d2 y S2 ep (fun b u z1 z2 => kr b u (by simp only [fa]; omega) z2) r2
    have e2 : xs.set j y = xs := by
      apply List.ext_getElem?
      intro t
      by_cases ht : t = j
      · subst ht; rw [k1, List.getElem?_set_self (List.getElem?_eq_some_iff.mp k1).1]
      · rw [List.getElem?_set_ne (Ne.symm ht)]
    rw [e2] at rl2
    have := l.put P2 H2 _ _ ep (fun b u z1 z2 => kr b u (by simp only [fa]; omega) z2) (hput P2 H2 _ _ ep (fun b u z1 z2 => kr b u (by simp only [fa]; omega) z2) rl2)
    have e3 : fa (fa Z (fa S2 R1)) R = fa S2 (fa (fa Z R1) R) := by funext b; simp only [fa]; omega
    rw [e3] at this
    exact this⟩
theorem Wd.iceL {c : LC} {P H : Hp} {S T : FP} {σ : L2.St} {ρ : List D} {L : Lens} {v : V} {d : D} {Sd R : FP} (w : Wd c E P S T σ H ρ) (l : Loc c L P H σ ρ S v d Sd R) : ∃ P' S', Wd c E P' S' T σ H (L.put ρ (ice d)) ∧ Ex P P' := by
  have h1 := l.sum
  have hP : ∀ a, 0 < Sd a → P a = none := fun a z => w.out a (by have := h1 a; omega)
  have ex : Ex P (fun a => if 0 < Sd a then H a else P a) := fun a o z => by
    by_cases hu : 0 < Sd a
    · rw [hP a hu] at z; cases z
    · simp [hu, z]
  have hr : Rep c (fun a => if 0 < Sd a then H a else P a) H (ice d) v fz := Rep.ice ex d v Sd (fun a o z1 z2 => by simp [z1, z2]) l.rep
  have henv := l.put _ H _ fz ex (fun _ _ _ h => h) hr
  rw [fz_fa] at henv
  refine ⟨fun a => if 0 < Sd a then H a else P a, R, ⟨henv, fun a => ?_, fun a z => ?_, w.th, fun a o z => ?_, w.p0.trans ex, w.fr, fun a z => ?_, fun a z => w.ns a (by have := h1 a; omega), w.kp⟩, ex⟩
  · have := w.le a; have := h1 a; omega
  · have l2 := w.le a; have s := h1 a
    have hu : ¬ 0 < Sd a := by omega
    simp only [hu, if_false]
    exact w.out a (by omega)
  · by_cases hu : 0 < Sd a
    · simpa [hu] using z
    · exact w.ph a o (by simpa [hu] using z)
  · by_cases hu : 0 < Sd a
    · exact .inr (w.ns a (by have := h1 a; omega))
    · exact w.np a (by simpa [hu] using z)
def frzP (L : Lens) (m : SM) : SM := fun ρ => (L.get ρ).bind fun d => m (L.put ρ (ice d))
theorem s_frzP (L : Lens) [LOk L] {X : Cx} {cl : Nat → Addr} {E : En} {m : SM} {sts : List Stmt} (h : PSs X sts (tS ⟨X.K, cl⟩ E m)) : PSs X sts (tS ⟨X.K, cl⟩ E (frzP L m)) := PSs_imp h fun D σ H ⟨P, S, ρ, fl, ρ', w, hm, q⟩ => by
  unfold frzP at hm
  cases e1 : L.get ρ with
  | none => rw [e1] at hm; cases hm
  | some d =>
    rw [e1, Option.bind_some] at hm
    obtain ⟨v, Sd, R, l⟩ := LOk.ok (L := L) ⟨X.K, cl⟩ P H ρ σ S d w.ph w.env e1
    obtain ⟨P2, S2, w2, e2⟩ := w.iceL l
    exact ⟨P2, S2, _, fl, ρ', w2, hm, q.mono e2⟩
/-- what is told, left to none -/
def coldG (g : GM) : GM := fun ρ => (g ρ).map fun r => (ice r.1, r.2)
theorem g_cold {X : Cx} {cl : Nat → Addr} {E : En} {e : Expr} {g : GM} (h : PE X e (tG ⟨X.K, cl⟩ E g)) : PE X e (tG ⟨X.K, cl⟩ E (coldG g)) := PE_imp h fun σ H Q ⟨P, S, T, ρ, d, ρ', w, hm, q⟩ => by
  unfold coldG at hm
  cases e1 : g ρ with
  | none => rw [e1] at hm; cases hm
  | some r =>
    obtain ⟨d1, ρ1⟩ := r
    rw [e1] at hm
    cases hm
    refine ⟨P, S, T, ρ, d1, ρ1, w, e1, fun v H' P' S' U w' x r kT => ?_⟩
    have hP : ∀ a, 0 < U a → P' a = none := fun a z => w'.out a (by simp only [fa]; omega)
    have ex : Ex P' (fun a => if 0 < U a then H' a else P' a) := fun a o z => by
      by_cases hu : 0 < U a
      · rw [hP a hu] at z; cases z
      · simp [hu, z]
    have hr : Rep ⟨X.K, cl⟩ (fun a => if 0 < U a then H' a else P' a) H' (ice d1) v fz := Rep.ice ex d1 v U (fun a o z1 z2 => by simp [z1, z2]) r
    refine q v H' _ S' fz ?_ (x.trans ex) hr kT
    rw [fa_fz]
    refine ⟨RepE.mono ex _ _ _ (fun _ _ _ h => h) w'.env, fun a => ?_, fun a z => ?_, fun a z => w'.th a (by simp only [fa]; omega), fun a o z => ?_, w'.p0.trans ex, fun a o z1 z2 => w'.fr a o z1 z2, fun a z => ?_, fun a z => w'.ns a (by first | exact z | (simp only [fa]; omega)), w'.kp⟩
    · have := w'.le a; simp only [fa] at *; omega
    · have l := w'.le a
      have hu : ¬ 0 < U a := by simp only [fa] at l; omega
      simp only [hu, if_false]
      exact w'.out a (by simp only [fa]; omega)
    · by_cases hu : 0 < U a
      · simpa [hu] using z
      · exact w'.ph a o (by simpa [hu] using z)
    · by_cases hu : 0 < U a
      · exact .inr (w'.ns a (by simp only [fa]; omega))
      · exact w'.np a (by simpa [hu] using z)
/-- a, b, .. = a list of that length -/
def lstT (f : List D → List D → Option (List D)) : TgM := fun d ρ => match d with | .lst _ ds => if frzL ds = true then f ds ρ else none | _ => none
theorem g_unl {X : Cx} {cl : Nat → Addr} {E : En} {pos : Pos} {es : List Expr} {k : Nat} {tl : List Nat} {f : List D → List D → Option (List D)} {n : Nat} (hc : X.calm = true) (h : PGs X es (tPGs ⟨X.K, cl⟩ E tl f))
    (hn : (assignEach es X.env).length = n := by rfl) (hst : (assignEach es X.env).findIdx? (·.1) = none := by rfl) (hlen : ∀ ds ρ ρ', f ds ρ = some ρ' → ds.length = n := by intro ds ρ ρ' h; rcases ds with _ | ⟨_, ds⟩ <;> simp_all) : PG X (.Tuple es k pos) (tPG ⟨X.K, cl⟩ E tl (lstT f)) := PG_imp (pg_unl hc h hn hst) fun v σ H Q ⟨P, S, T, U, ρ, d, ρ', w, r, hm, q⟩ => by
  cases d with
  | lst o ds =>
    replace hm : (if frzL ds = true then f ds ρ else none) = some ρ' := hm
    split at hm
    · rename_i hz
      obtain ⟨a, xs, T1, e1, hh, rl, _⟩ := lst_heap w.ph r
      have z := RepL.frz0 ds xs T1 hz rl
      subst z
      refine ⟨a, xs, e1, .inl (.inl hh), by rw [← rl.length]; exact hlen ds ρ ρ' hm, P, S, T, fz, ρ, ds, ρ', by rw [fa_fz]; exact w.drop, rl, hm, q⟩
    · cases hm
  | _ => cases hm
/-! ### arguments that change things -/
abbrev AGM := List D → Option (List D × List D)
def tAG (c : LC) (E : En) (m : AGM) : TA := fun σ H Q => ∃ P S T ρ ds ρ', Wd c E P S T σ H ρ ∧ m ρ = some (ds, ρ') ∧
  ∀ vs H' P' S', Wd c E P' S' T σ H' ρ' → Ex P P' → RepL c P' H' ds vs fz → (∀ a o, 0 < T a → H a = some o → H' a = some o) → Q vs H'
def nilG : AGM := fun ρ => some ([], ρ)
def consG (g : GM) (ms : AGM) : AGM := fun ρ => (g ρ).bind fun r => if frz r.1 = true then (ms r.2).map fun s => (r.1 :: s.1, s.2) else none
section
variable {X : Cx} {cl : Nat → Addr} {E : En} {e : Expr} {es : List Expr} {pos p : Pos} {g : GM} {ms : AGM} {CX : CXT} {k : Nat} {f : Addr} {fd : FuncData} {ps : List Str} {F : FM} {XE : XK} {x : Str}
theorem ag_nil : PA X [] (tAG ⟨X.K, cl⟩ E nilG) := PA_imp pa_nil fun σ H Q ⟨P, S, T, ρ, ds, ρ', w, hm, q⟩ => by
  cases hm
  exact q [] H P S w (.refl _) ⟨rfl, rfl⟩ fun _ _ _ h => h
theorem ag_cons (h : PE X e (tG ⟨X.K, cl⟩ E g)) (hr : PA X es (tAG ⟨X.K, cl⟩ E ms)) (hs : starEach (e :: es) X.env = (false, eval e X.env) :: starEach es X.env := by rfl) : PA X (e :: es) (tAG ⟨X.K, cl⟩ E (consG g ms)) :=
  PA_imp (pa_cons h hr hs) fun σ H Q ⟨P, S, T, ρ, ds, ρ', w, hm, q⟩ => by
    unfold consG at hm
    cases e1 : g ρ with
    | none => rw [e1] at hm; cases hm
    | some r =>
      obtain ⟨d, ρ1⟩ := r
      rw [e1, Option.bind_some] at hm
      dsimp only at hm
      split at hm
      · rename_i hz
        cases e2 : ms ρ1 with
        | none => rw [e2] at hm; cases hm
        | some s =>
          obtain ⟨ds2, ρ2⟩ := s
          rw [e2] at hm
          cases hm
          refine ⟨P, S, T, ρ, d, ρ1, w, e1, fun v H1 P1 S1 U w1 x1 r1 k1 => ?_⟩
          have z := Rep.frz0 d v U hz r1
          subst z
          rw [fa_fz] at w1
          refine ⟨P1, S1, T, ρ1, ds2, _, w1, e2, fun vs H2 P2 S2 w2 x2 r2 k2 => ?_⟩
          exact q (v :: vs) H2 P2 S2 w2 (x1.trans x2) ⟨v, vs, fz, fz, rfl, Rep.mono x2 d v fz (fun a o z _ => by simp [fz] at z) r1, r2, by rw [fa_fz]⟩ fun a o z1 z2 => k2 a o z1 (k1 a o z1 z2)
      · cases hm
def callG (F : FM) (ms : AGM) : GM := fun ρ => (ms ρ).bind fun s => if frzL s.1 = true then (F s.1).map fun r => (r.1, s.2) else none
theorem g_callG (G : FnOk X.prog X.w X.K X.mg X.base CX k f fd ps (spD ⟨X.K, cl⟩ F)) (hr : Room k X.A) (hg : Gl X x) (hm : X.mg x = some (.ref f)) (hk : PySem.W.keepIn X.K (.ref f) = true) (hb : Binds X.K fd ps []) (hx : Passes CX X XE)
    (ha : PA X (e :: es) (tAG ⟨X.K, cl⟩ E ms)) (hdb : (x == ("__debug__" : Str)) = false := by decide) (he : starEach (e :: es) X.env = (false, eval e X.env) :: starEach es X.env := by rfl) (hpl : (backTo pos (starEach es X.env)).any (·.1) = false := by rfl) :
    PE X (.Call (.Name x p) (e :: es) [] pos) (tG ⟨X.K, cl⟩ E (callG F ms)) := PE_imp (pe_call G hr hg hm hk hb .nil hx ha hdb he hpl) fun σ H Q ⟨P, S, T, ρ, d, ρ', w, h, q⟩ => by
  unfold callG at h
  cases e1 : ms ρ with
  | none => rw [e1] at h; cases h
  | some s =>
    obtain ⟨ds, ρ1⟩ := s
    rw [e1, Option.bind_some] at h
    dsimp only at h
    split at h
    · rename_i hz
      cases e2 : F ds with
      | none => rw [e2] at h; cases h
      | some r =>
        obtain ⟨d1, ds'⟩ := r
        rw [e2] at h
        cases h
        refine ⟨P, S, T, ρ, ds, _, w, e1, fun vs H1 P1 S1 w1 x1 r1 k1 => ?_⟩
        show spD ⟨X.K, cl⟩ F (vs ++ []) H1 Q XE
        rw [List.append_nil]
        have hi : iceL ds = ds := iceL_frz ds hz
        refine spD_view (c := ⟨X.K, cl⟩) (d := d1) (ds' := ds') w1.ph r1 (by rw [hi]; exact e2) (.inl hz) fun v H2 P2 U g2 r2 u1 u2 => ?_
        exact q v H2 P2 S1 U (w1.aside g2 u1 u2 (Rep.there d1 v U r2)) (x1.trans g2.p) r2 fun a o z1 z2 => g2.h a o (k1 a o z1 z2)
    · cases h
theorem FQ.ofG {P1 H1 : Hp} {S1 T : FP} {σ : L2.St} {ρ1 : List D} {d : D} {Q : VK} {c : LC} {P H : Hp} (w1 : Wd c E P1 S1 T σ H1 ρ1) (x1 : Ex P P1) (k1 : ∀ a o, 0 < T a → H a = some o → H1 a = some o)
    (q : ∀ v H' P' S' U, Wd c E P' S' (fa T U) σ H' ρ1 → Ex P P' → Rep c P' H' d v U → (∀ a o, 0 < T a → H a = some o → H' a = some o) → Q v H') : FQ c P1 H1 d Q := fun v H2 P2 U g2 r2 u1 u2 =>
  q v H2 P2 S1 U (w1.aside g2 u1 u2 (Rep.there d v U r2)) (x1.trans g2.p) r2 fun a o z1 z2 => g2.h a o (k1 a o z1 z2)
def seqG (f : List D → D) (ms : AGM) : GM := fun ρ => (ms ρ).bind fun s => if frzL s.1 = true ∧ s.1.length ≤ LIM then some (f s.1, s.2) else none
theorem seqG_split {f : List D → D} {ρ ρ' : List D} {d : D} (h : seqG f ms ρ = some (d, ρ')) : ∃ ds, ms ρ = some (ds, ρ') ∧ frzL ds = true ∧ ds.length ≤ LIM ∧ d = f ds := by
  unfold seqG at h
  cases e1 : ms ρ with
  | none => rw [e1] at h; cases h
  | some s =>
    obtain ⟨ds, ρ1⟩ := s
    rw [e1, Option.bind_some] at h
    dsimp only at h
    split at h
    · rename_i hz
      cases h
      exact ⟨ds, rfl, hz.1, hz.2, rfl⟩
    · cases h
theorem g_tupG {x1} (h : PA X es (tAG ⟨X.K, cl⟩ E ms)) : PE X (.Tuple es x1 pos) (tG ⟨X.K, cl⟩ E (seqG .tup ms)) := PE_imp (pe_tup h) fun σ H Q ⟨P, S, T, ρ, d, ρ', w, hm, q⟩ => by
  obtain ⟨ds, e1, hz, hl, rfl⟩ := seqG_split hm
  exact ⟨P, S, T, ρ, ds, _, w, e1, fun vs H1 P1 S1 w1 x1 r1 k1 => ⟨by rw [← r1.length]; exact lim_le hl, (FQ.ofG w1 x1 k1 q).tup w1.ph r1⟩⟩
theorem g_lstG (h : PA X es (tAG ⟨X.K, cl⟩ E ms)) : PE X (.List es pos) (tG ⟨X.K, cl⟩ E (seqG (.lst true) ms)) := PE_imp (pe_lst h) fun σ H Q ⟨P, S, T, ρ, d, ρ', w, hm, q⟩ => by
  obtain ⟨ds, e1, hz, hl, rfl⟩ := seqG_split hm
  exact ⟨P, S, T, ρ, ds, _, w, e1, fun vs H1 P1 S1 w1 x1 r1 k1 => ⟨by rw [← r1.length]; exact lim_le hl, (FQ.ofG w1 x1 k1 q).lst w1.ph r1⟩⟩
end
end LI
/-! PG: places in lists and under keys. -/
namespace LI
open PySem L2

/-- what is told without a new thing -/
def tN (c : LC) (E : En) (m : RM) : TE := fun σ H Q => ∃ P S T ρ d, Wd c E P S T σ H ρ ∧ m ρ = some d ∧ ∀ v U, Rep c P H d v U → Q v H
section
variable {X : Cx} {cl : Nat → Addr} {E : En} {e a b : Expr} {pos : Pos} {m ma mb mi : RM} {L : Lens}
theorem n_v (i : Nat) {x : Str} (hN : X.N[i]? = some x := by rfl) (hv : Vis X.env.scope x := by first | exact Or.inl rfl | exact Or.inr (Or.inl rfl) | exact Or.inr (Or.inr rfl)) (hd : (x == ("__debug__" : Str)) = false := by decide)
    (hcd : (x == ("__classdict__" : Str)) = false := by decide) : PE X (.Name x pos) (tN ⟨X.K, cl⟩ E (vM i)) := PE_imp (pe_var hN hv hd hcd) fun σ H Q ⟨P, S, T, ρ, d, w, hm, q⟩ => by
  obtain ⟨h1, h2⟩ := vM_some hm
  obtain ⟨v, T0, hs, r⟩ := slot_val w.env h1 h2
  exact ⟨v, hs, q v T0 r⟩
theorem n_int {i : Int} {j} : PE X (.Constant (.int i) j pos) (tN ⟨X.K, cl⟩ E (kM (.int i))) := PE_imp pe_int fun σ H Q ⟨P, S, T, ρ, d, w, hm, q⟩ => by
  cases hm; exact q _ fz ⟨rfl, rfl⟩
theorem n_neg (ha : PE X a (tN ⟨X.K, cl⟩ E ma)) : PE X (.UnaryOp .USub a pos) (tN ⟨X.K, cl⟩ E (m1 negD ma)) := PE_imp (pe_un un_neg ha) fun σ H Q ⟨P, S, T, ρ, d, w, hm, q⟩ => by
  unfold m1 at hm
  cases ea : ma ρ with
  | none => rw [ea] at hm; cases hm
  | some da =>
    rw [ea, Option.bind_some] at hm
    cases da with
    | int i => cases hm; exact ⟨P, S, T, ρ, .int i, w, ea, fun v U r => ⟨i, r.1, q _ fz ⟨rfl, rfl⟩⟩⟩
    | _ => cases hm
def idxL (L : Lens) (mi : RM) : Lens := ⟨fun ρ => (L.get ρ).bind fun d => (mi ρ).bind fun i => match d, i with
    | .lst _ ds, .int k => (ixN ds.length k).bind fun j => (ds[j]?).bind fun d => if notGone d = true then some d else none
    | _, _ => none,
  fun ρ d2 => match L.get ρ, mi ρ with
    | some (.lst o ds), some (.int k) => match ixN ds.length k with
      | some j => L.put ρ (.lst o (ds.set j d2))
      | none => ρ
    | _, _ => ρ⟩
theorem idx_split {ρ : List D} {d : D} (h : (idxL L mi).get ρ = some d) : ∃ o ds k j, L.get ρ = some (.lst o ds) ∧ mi ρ = some (.int k) ∧ ixN ds.length k = some j ∧ ds[j]? = some d ∧ notGone d = true ∧ ∀ d2, (idxL L mi).put ρ d2 = L.put ρ (.lst o (ds.set j d2)) := by
  unfold idxL at h
  cases e1 : L.get ρ with
  | none => simp [e1] at h
  | some d0 =>
    cases e0 : mi ρ with
    | none => simp [e1, e0] at h
    | some i =>
      simp only [e1, e0, Option.bind_some] at h
      split at h
      · rename_i o ds k
        cases e2 : ixN ds.length k with
        | none => rw [e2] at h; cases h
        | some j =>
          rw [e2, Option.bind_some] at h
          cases e3 : ds[j]? with
          | none => rw [e3] at h; cases h
          | some d1 =>
            rw [e3, Option.bind_some] at h
            split at h
            · rename_i hn
              cases h
              exact ⟨o, ds, k, j, rfl, rfl, e2, e3, hn, fun d2 => by simp [idxL, e1, e0, e2]⟩
            · cases h
      · cases h
theorem lst_heapP {c : LC} {P H : Hp} (e : Ex P H) {o : Bool} {ds : List D} {v : V} {U : FP} (r : Rep c P H (.lst o ds) v U) : ∃ a xs T Z, v = .ref a ∧ H a = some (.lst xs) ∧ RepL c P H ds xs T ∧ (∀ b, U b = Z b + T b) ∧
    ∀ (P2 H2 : Hp) (ds2 : List D) (T2 : FP), Ex P P2 → (∀ b u, 0 < Z b → H b = some u → H2 b = some u) → RepL c P2 H2 ds2 xs T2 → Rep c P2 H2 (.lst o ds2) v (fa Z T2) := by
  cases o with
  | true =>
    obtain ⟨a, xs, T, e1, h, rl, f⟩ := r
    exact ⟨a, xs, T, one a, e1, h, rl, fun b => by rw [f]; rfl, fun P2 H2 ds2 T2 _ hk r2 => ⟨a, xs, T2, e1, hk a _ (by simp [one]) h, r2, rfl⟩⟩
  | false =>
    obtain ⟨a, xs, e1, h, rl⟩ := r
    exact ⟨a, xs, U, fz, e1, e _ _ h, rl, fun b => by simp [fz], fun P2 H2 ds2 T2 hp _ r2 => ⟨a, xs, e1, hp _ _ h, by rw [fz_fa]; exact r2⟩⟩
theorem p_ix (ha : PE X a (tPl ⟨X.K, cl⟩ E L)) (hb : PE X b (tN ⟨X.K, cl⟩ E mi)) (hs : PlainIx b := by exact fun _ _ => rfl) : PE X (.Subscript a b pos) (tPl ⟨X.K, cl⟩ E (idxL L mi)) :=
  PE_imp (pe_ix ix_seq ha hb hs) fun σ H Q ⟨P, S, T, ρ, d, w, hg, q⟩ => by
    obtain ⟨o, ds, k, j, h1, h2, h3, h4, h5, h6⟩ := idx_split hg
    refine ⟨P, S, T, ρ, _, w, h1, fun v Sd R l => ⟨P, S, T, ρ, _, w, h2, fun y U ry => ?_⟩⟩
    obtain ⟨p, xs, T1, Z, e1, hh, rl, hz, hput⟩ := lst_heapP w.ph l.rep
    obtain ⟨z, S1, R1, k1, k2, k3, k4⟩ := rl.focus h4
    refine .inl ⟨p, xs, k, z, e1, ry.1, .inl (.inl hh), ?_, q z S1 (fa (fa Z R1) R) ⟨fun b => ?_, k2, fun P2 H2 d2 S2 ep kr r2 => ?_⟩⟩
    · unfold atI; rw [← rl.length, h3]; exact k1
    · have := l.sum b; have := hz b; have := k3 b; simp only [fa]; omega
    · rw [h6]
      have rl2 := k4 P2 H2 d2 z S2 ep (fun b u z1 z2 => kr b u (by simp only [fa]; omega) z2) r2
      have e2 : xs.set j z = xs := by
        apply List.ext_getElem?
        intro t
        by_cases ht : t = j
        · subst ht; rw [k1, List.getElem?_set_self (List.getElem?_eq_some_iff.mp k1).1]
        · rw [List.getElem?_set_ne (Ne.symm ht)]
      rw [e2] at rl2
      have := l.put P2 H2 _ _ ep (fun b u z1 z2 => kr b u (by simp only [fa]; omega) z2) (hput P2 H2 _ _ ep (fun b u z1 z2 => kr b u (by simp only [fa]; omega) z2) rl2)
      have e3 : fa (fa Z (fa S2 R1)) R = fa S2 (fa (fa Z R1) R) := by funext b; simp only [fa]; omega
      rw [e3] at this
      exact this
end
end LI
namespace LI
open PySem L2
/-! ### parts that may be owned -/
def tAO (c : LC) (E : En) (m : AGM) : TA := fun σ H Q => ∃ P S T ρ ds ρ', Wd c E P S T σ H ρ ∧ m ρ = some (ds, ρ') ∧
  ∀ vs H' P' S' U, Wd c E P' S' (fa T U) σ H' ρ' → Ex P P' → RepL c P' H' ds vs U → (∀ a o, 0 < T a → H a = some o → H' a = some o) → Q vs H'
def consO (g : GM) (ms : AGM) : AGM := fun ρ => (g ρ).bind fun r => (ms r.2).map fun s => (r.1 :: s.1, s.2)
section
variable {X : Cx} {cl : Nat → Addr} {E : En} {e : Expr} {es : List Expr} {pos p : Pos} {g : GM} {ms : AGM}
theorem ao_nil : PA X [] (tAO ⟨X.K, cl⟩ E nilG) := PA_imp pa_nil fun σ H Q ⟨P, S, T, ρ, ds, ρ', w, hm, q⟩ => by
  cases hm
  exact q [] H P S fz (by rw [fa_fz]; exact w) (.refl _) ⟨rfl, rfl⟩ fun _ _ _ h => h
theorem ao_cons (h : PE X e (tG ⟨X.K, cl⟩ E g)) (hr : PA X es (tAO ⟨X.K, cl⟩ E ms)) (hs : starEach (e :: es) X.env = (false, eval e X.env) :: starEach es X.env := by rfl) : PA X (e :: es) (tAO ⟨X.K, cl⟩ E (consO g ms)) :=
  PA_imp (pa_cons h hr hs) fun σ H Q ⟨P, S, T, ρ, ds, ρ', w, hm, q⟩ => by
    unfold consO at hm
    cases e1 : g ρ with
    | none => rw [e1] at hm; cases hm
    | some r =>
      obtain ⟨d, ρ1⟩ := r
      rw [e1, Option.bind_some] at hm
      dsimp only at hm
      cases e2 : ms ρ1 with
      | none => rw [e2] at hm; cases hm
      | some s =>
        obtain ⟨ds2, ρ2⟩ := s
        rw [e2] at hm
        cases hm
        refine ⟨P, S, T, ρ, d, ρ1, w, e1, fun v H1 P1 S1 U w1 x1 r1 k1 => ?_⟩
        refine ⟨P1, S1, fa T U, ρ1, ds2, _, w1, e2, fun vs H2 P2 S2 U2 w2 x2 r2 k2 => ?_⟩
        rw [fa_assoc] at w2
        exact q (v :: vs) H2 P2 S2 (fa U U2) w2 (x1.trans x2) ⟨v, vs, U, U2, rfl, Rep.mono x2 d v U (fun a o z h => k2 a o (by simp only [fa]; omega) h) r1, r2, rfl⟩ fun a o z1 z2 => k2 a o (by simp only [fa]; omega) (k1 a o z1 z2)
def lstO (ms : AGM) : GM := fun ρ => (ms ρ).bind fun s => if s.1.length ≤ LIM then some (.lst true s.1, s.2) else none
theorem g_lstO (h : PA X es (tAO ⟨X.K, cl⟩ E ms)) : PE X (.List es pos) (tG ⟨X.K, cl⟩ E (lstO ms)) := PE_imp (pe_lst h) fun σ H Q ⟨P, S, T, ρ, d, ρ', w, hm, q⟩ => by
  unfold lstO at hm
  cases e1 : ms ρ with
  | none => rw [e1] at hm; cases hm
  | some s =>
    obtain ⟨ds, ρ1⟩ := s
    rw [e1, Option.bind_some] at hm
    dsimp only at hm
    split at hm
    · rename_i hl
      cases hm
      refine ⟨P, S, T, ρ, ds, _, w, e1, fun vs H1 P1 S1 U w1 x1 r1 k1 => ⟨by rw [← r1.length]; exact lim_le hl, fun p hp => ?_⟩⟩
      have hP : P1 p = none := none_of w1.ph hp
      have hU : ∀ a, 0 < U a → a ≠ p := fun a z e => by
        subst e
        exact RepL.there ds vs U r1 _ z hp
      have g2 : Gr P1 H1 P1 (upd H1 p (.lst vs)) := ⟨.refl _, ex_new hp, w1.ph.trans (ex_new hp), fun _ z => .inl z⟩
      have w2 := w1.aside g2 (U := one p) one_le (fun a z => by rw [one_pos z]; exact ⟨hp, hP⟩) (fun a z => by rw [one_pos z, upd_same]; simp)
      rw [fa_assoc, fa_comm U] at w2
      refine q (.ref p) _ P1 S1 (fa (one p) U) w2 x1 ⟨p, vs, U, rfl, upd_same, RepL.mono (.refl _) ds vs U (fun a o z h => by rw [upd_ne (hU a z)]; exact h) r1, rfl⟩ fun a o z1 z2 => ?_
      have h3 := k1 a o z1 z2
      exact ex_new hp _ _ h3
    · cases hm
end
end LI
/-! PI: tuples that may be keys, and dicts with such keys. -/
namespace LI
open PySem L2

def wkD : D → D
  | .key ks => .tup (ks.map kD)
  | d => d
theorem keys_rep {c : LC} {P H : Hp} : ∀ ks : List Key, RepL c P H (ks.map kD) (ks.map kV) fz
  | [] => ⟨rfl, rfl⟩
  | k :: ks => ⟨kV k, ks.map kV, fz, fz, rfl, kD_rep k, keys_rep ks, by rw [fa_fz]⟩
theorem wk_rep {c : LC} {P H : Hp} : ∀ {d : D} {v : V} {U : FP}, Rep c P H d v U → Rep c P H (wkD d) v U := fun {d v U} r => by
  cases d with
  | key ks =>
    obtain ⟨a, e, q, z⟩ := r
    subst z
    exact ⟨a, ks.map kV, e, .inl (.inl q), keys_rep ks⟩
  | _ => exact r
def wkM (m : RM) : RM := fun ρ => (m ρ).map wkD
def keyM (ms : AM) : RM := fun ρ => (ms ρ).bind fun ds => if ds.length ≤ LIM then (keyDs ds).map .key else none
section
variable {X : Cx} {cl : Nat → Addr} {E : En} {e a b o i : Expr} {es : List Expr} {pos p apos : Pos} {m ma mb : RM} {ms : AM} {L : Lens}
theorem r_wk (h : PE X e (tR ⟨X.K, cl⟩ E m)) : PE X e (tR ⟨X.K, cl⟩ E (wkM m)) := PE_imp h fun σ H Q ⟨P, S, T, ρ, d, w, hm, q⟩ => by
  unfold wkM at hm
  cases e1 : m ρ with
  | none => rw [e1] at hm; cases hm
  | some d1 =>
    rw [e1] at hm
    cases hm
    exact ⟨P, S, T, ρ, d1, w, e1, fun v H' P' U g r => q v H' P' U g (wk_rep r)⟩
theorem f_wk (h : PE X e (tF ⟨X.K, cl⟩ E m)) : PE X e (tF ⟨X.K, cl⟩ E (wkM m)) := PE_imp h fun σ H Q ⟨P, S, T, ρ, d, w, hm, q⟩ => by
  unfold wkM at hm
  cases e1 : m ρ with
  | none => rw [e1] at hm; cases hm
  | some d1 =>
    rw [e1] at hm
    cases hm
    exact ⟨P, S, T, ρ, d1, w, e1, fun v H' P' U g r => q v H' P' U g (wk_rep r)⟩
theorem FQ.key {c : LC} {P H : Hp} {Q : VK} {ks : List Key} (h : FQ c P H (.key ks) Q) (e : Ex P H) : ∀ p, H p = none → Q (.ref p) (upd H p (.tup (ks.map kV))) := fun p hp => by
  have hP := none_of e hp
  refine h _ _ (upd P p (.tup (ks.map kV))) fz ⟨ex_new hP, ex_new hp, fun a o z => ?_, fun a z => ?_⟩ ⟨p, rfl, upd_same, rfl⟩ (fun _ => Nat.zero_le _) (fun a z => by simp [fz] at z)
  · by_cases q : a = p
    · subst q; rw [upd_same] at z ⊢; exact z
    · rw [upd_ne q] at z ⊢; exact e a o z
  · by_cases q : a = p
    · subst q; exact .inr hp
    · rw [upd_ne q] at z; exact .inl z
theorem f_key {x1} (h : PA X es (tAR ⟨X.K, cl⟩ E ms)) : PE X (.Tuple es x1 pos) (tF ⟨X.K, cl⟩ E (keyM ms)) := PE_imp (pe_tup h) fun σ H Q ⟨P, S, T, ρ, d, w, hm, q⟩ => by
  unfold keyM at hm
  cases e1 : ms ρ with
  | none => rw [e1] at hm; cases hm
  | some ds =>
    rw [e1, Option.bind_some] at hm
    split at hm
    · rename_i hl
      cases ek : keyDs ds with
      | none => rw [ek] at hm; cases hm
      | some ks =>
        rw [ek] at hm
        cases hm
        refine ⟨P, S, T, ρ, ds, w, e1, fun vs H' P' U g r => ⟨by rw [← r.length]; exact lim_le hl, ?_⟩⟩
        rw [keyDs_v ek r]
        exact (q.grow g).key g.ph
    · cases hm
/-! ### dicts with tuples for keys -/
theorem dt_heap {c : LC} {P H : Hp} (e : Ex P H) {o : Bool} {ks : List (List Key)} {ds : List D} {v : V} {U : FP} (r : Rep c P H (.dT o ks ds) v U) : ∃ a xs T, v = .ref a ∧ H a = some (.dT (ks.zip xs)) ∧ ks.length = xs.length ∧ RepL c P H ds xs T ∧ ∀ b, T b ≤ U b := by
  cases o with
  | true =>
    obtain ⟨a, xs, T, e1, h, n, rl, f⟩ := r
    exact ⟨a, xs, T, e1, h, n, rl, fun b => by rw [f]; simp only [fa]; omega⟩
  | false =>
    obtain ⟨a, xs, e1, h, n, rl⟩ := r
    exact ⟨a, xs, U, e1, e _ _ h, n, rl, fun b => Nat.le_refl _⟩
theorem valT_under {c : LC} {P H : Hp} {ks : List (List Key)} {ds : List D} {xs : List V} {T : FP} (n : ks.length = xs.length) (rl : RepL c P H ds xs T) (k : List Key) : match under ks ds k with
    | some d => ∃ x T', valV (ks.zip xs) k = some x ∧ Rep c P H d x T' ∧ ∀ b, T' b ≤ T b
    | none => valV (ks.zip xs) k = none := by
  cases z : under ks ds k with
  | some d =>
    obtain ⟨x, T', h1, h2, h3⟩ := under_rep rl n z
    exact ⟨x, T', by unfold valV; rw [h1]; rfl, h2, h3⟩
  | none => exact under_none rl n z
def ixT : D → D → Option D
  | .dT _ ks ds, .key k => under ks ds k
  | _, _ => none
theorem r_ixT (hu : X.A.units + 1 < cLine) (ha : PE X a (tR ⟨X.K, cl⟩ E ma)) (hb : PE X b (tR ⟨X.K, cl⟩ E mb)) (hs : PlainIx b := by exact fun _ _ => rfl) : PE X (.Subscript a b pos) (tR ⟨X.K, cl⟩ E (m2 ixT ma mb)) := by
  refine PE_imp (pe_dget hu ha hb hs) fun σ H Q ⟨P, S, T, ρ, d, w, hm, q⟩ => ?_
  unfold m2 at hm
  cases ea : ma ρ with
  | none => rw [ea] at hm; cases hm
  | some da =>
    cases eb : mb ρ with
    | none => rw [ea, eb] at hm; cases hm
    | some db =>
      rw [ea, eb] at hm
      replace hm : ixT da db = some d := hm
      unfold ixT at hm
      split at hm
      · rename_i o ks ds k
        refine ⟨P, S, T, ρ, .dT o ks ds, w, ea, fun x H1 P1 U1 g1 r1 => ⟨P1, S, T, ρ, .key k, w.grow g1, eb, fun y H2 P2 U2 g2 r2 => ?_⟩⟩
        obtain ⟨p, xs, T', e1, hh, n, rl, _⟩ := dt_heap g2.ph (r1.gr g2)
        obtain ⟨kb, e2, hk, _⟩ := r2
        have hv := valT_under n rl k
        rw [hm] at hv
        obtain ⟨x', T2, hx, hr, _⟩ := hv
        refine ⟨p, x', e1, ?_, q x' H2 P2 T2 (g1.trans g2) hr⟩
        rw [e2, ← hx]
        exact DGet.t hh (g2.ph _ _ hk)
      · cases hm
end
/-! ### d[k] = v -/
def putL {κ β : Type} [DecidableEq κ] (ks : List κ) (xs : List β) (k : κ) (y : β) : List κ × List β :=
  if (ks.any fun j => decide (j = k)) = true then (ks, (ks.zip xs).map fun p => if p.1 = k then y else p.2) else (ks ++ [k], xs ++ [y])
theorem zip_any {κ : Type} [DecidableEq κ] {k : κ} : ∀ {ks : List κ} {xs : List V}, ks.length = xs.length → ((ks.zip xs).any fun kv => decide (kv.1 = k)) = ks.any fun j => decide (j = k)
  | [], xs, _ => by simp
  | j :: ks, [], h => by simp at h
  | j :: ks, x :: xs, h => by
    rw [List.zip_cons_cons, List.any_cons, List.any_cons, zip_any (ks := ks) (xs := xs) (by simpa using h)]
theorem zip_repl {κ : Type} [DecidableEq κ] {k : κ} {y : V} : ∀ {ks : List κ} {xs : List V}, ks.length = xs.length → ((ks.zip xs).map fun kv => if kv.1 = k then (kv.1, y) else kv) = ks.zip ((ks.zip xs).map fun p => if p.1 = k then y else p.2)
  | [], xs, _ => by simp
  | j :: ks, [], h => by simp at h
  | j :: ks, x :: xs, h => by
    rw [List.zip_cons_cons, List.map_cons, List.map_cons, List.zip_cons_cons, zip_repl (ks := ks) (xs := xs) (by simpa using h)]
    by_cases e : j = k <;> simp [e]
theorem putK_zip {κ : Type} [DecidableEq κ] {k : κ} {y : V} {ks : List κ} {xs : List V} (h : ks.length = xs.length) : putK (ks.zip xs) k y = (putL ks xs k y).1.zip (putL ks xs k y).2 := by
  unfold putK putL
  rw [zip_any h]
  split
  · exact zip_repl h
  · show ks.zip xs ++ [(k, y)] = (ks ++ [k]).zip (xs ++ [y])
    rw [List.zip_append h]; rfl
theorem putL_len {κ β : Type} [DecidableEq κ] {k : κ} {y : β} {ks : List κ} {xs : List β} (h : ks.length = xs.length) : (putL ks xs k y).1.length = (putL ks xs k y).2.length := by
  unfold putL
  split
  · show ks.length = (List.map _ (ks.zip xs)).length
    rw [List.length_map, List.length_zip, ← h, Nat.min_self]
  · show (ks ++ [k]).length = (xs ++ [y]).length
    rw [List.length_append, List.length_append, h]; rfl
theorem repl_rep {κ : Type} [DecidableEq κ] {c : LC} {P H : Hp} {k : κ} {d : D} {y : V} (r : Rep c P H d y fz) : ∀ {ks : List κ} {ds : List D} {xs : List V}, ks.length = xs.length → RepL c P H ds xs fz → RepL c P H ((ks.zip ds).map fun p => if p.1 = k then d else p.2) ((ks.zip xs).map fun p => if p.1 = k then y else p.2) fz
  | [], ds, xs, _, _ => ⟨by simp, rfl⟩
  | j :: ks, [], xs, h, rl => by rw [rl.1] at h; simp at h
  | j :: ks, d0 :: ds, xs, h, rl => by
    obtain ⟨x, ys, T, U, e, r0, rs, f⟩ := rl
    subst e
    have hT : T = fz := by funext b; have := congrFun f b; simp only [fa, fz] at this ⊢; omega
    have hU : U = fz := by funext b; have := congrFun f b; simp only [fa, fz] at this ⊢; omega
    subst hT hU
    have ih := repl_rep (k := k) r (ks := ks) (by simpa using h) rs
    rw [List.zip_cons_cons, List.zip_cons_cons, List.map_cons, List.map_cons]
    refine ⟨_, _, fz, fz, rfl, ?_, ih, by rw [fa_fz]⟩
    by_cases e : j = k
    · rw [if_pos e, if_pos e]; exact r
    · rw [if_neg e, if_neg e]; exact r0
theorem putL_rep {κ : Type} [DecidableEq κ] {c : LC} {P H : Hp} {k : κ} {d : D} {y : V} {ks : List κ} {ds : List D} {xs : List V} (r : Rep c P H d y fz) (h : ks.length = xs.length) (rl : RepL c P H ds xs fz) : RepL c P H (putL ks ds k d).2 (putL ks xs k y).2 fz := by
  unfold putL
  split
  · exact repl_rep r h rl
  · exact repL_cat rl ⟨y, [], fz, fz, rfl, r, ⟨rfl, rfl⟩, by rw [fa_fz]⟩
theorem putL_keys {κ β γ : Type} [DecidableEq κ] {k : κ} {y : β} {z : γ} {ks : List κ} {xs : List β} {zs : List γ} : (putL ks xs k y).1 = (putL ks zs k z).1 := by
  unfold putL; split <;> rfl
theorem dt_upd {c : LC} {E : En} {P H : Hp} {S T : FP} {σ : L2.St} {ρ : List D} {L : Lens} {v : V} {ks : List (List Key)} {ds : List D} {Sd R : FP} (w : Wd c E P S T σ H ρ) (l : Loc c L P H σ ρ S v (.dT true ks ds) Sd R) (hz : frzL ds = true) : ∃ a xs, v = .ref a ∧ H a = some (.dT (ks.zip xs)) ∧ ks.length = xs.length ∧ RepL c P H ds xs fz ∧
    ∀ (js : List (List Key)) (ys : List V) (es : List D), js.length = ys.length → (∀ H', RepL c P H' es ys fz) → ∃ S', Wd c E P S' T σ (upd H a (.dT (js.zip ys))) (L.put ρ (.dT true js es)) ∧ ∀ b u, 0 < T b → H b = some u → upd H a (.dT (js.zip ys)) b = some u := by
  have w' : Wd c E P S (fa T fz) σ H ρ := by rw [fa_fz]; exact w
  obtain ⟨a, xs, T1, e1, hh, n, rl, hf⟩ := l.rep
  have z := RepL.frz0 ds xs T1 hz rl
  subst z
  have hS : ∀ b, Sd b = one a b + fz b := fun b => by rw [hf]; rfl
  refine ⟨a, xs, e1, hh, n, rl, fun js ys es hl hr => ?_⟩
  have w2 := loc_own w' l hS (fun b hb => by simp [fz] at hb) (.dT (js.zip ys)) (.dT true js es) fz fz ⟨a, ys, fz, e1, upd_same, hl, hr _, rfl⟩ fun b => by simp only [fz]; omega
  rw [fa_fz T] at w2
  refine ⟨_, w2, fun b u hb hu => ?_⟩
  have : b ≠ a := fun q => by
    subst q
    have := w.le b; have := l.sum b; have := hS b
    simp [one] at *; omega
  rw [upd_ne this]; exact hu
def dputT (L : Lens) (mi : RM) (g : GM) : SM := fun ρ => (g ρ).bind fun r => (L.get r.2).bind fun l => (mi r.2).bind fun k => match l, k with
  | .dT true ks ds, .key k => if frzL ds = true ∧ frz r.1 = true ∧ ks.length < LIM then some (.nx, L.put r.2 (.dT true (putL ks ds k r.1).1 (putL ks ds k r.1).2)) else none
  | _, _ => none
theorem dputT_split {L : Lens} {mi : RM} {g : GM} {ρ : List D} {r : Fl × List D} (h : dputT L mi g ρ = some r) : ∃ d ρ1 ks ds k, g ρ = some (d, ρ1) ∧ L.get ρ1 = some (.dT true ks ds) ∧ mi ρ1 = some (.key k) ∧ frzL ds = true ∧ frz d = true ∧ ks.length < LIM ∧ r = (.nx, L.put ρ1 (.dT true (putL ks ds k d).1 (putL ks ds k d).2)) := by
  unfold dputT at h
  cases e1 : g ρ with
  | none => rw [e1] at h; cases h
  | some r1 =>
    obtain ⟨d, ρ1⟩ := r1
    rw [e1, Option.bind_some] at h
    dsimp only at h
    cases e2 : L.get ρ1 with
    | none => rw [e2] at h; cases h
    | some l =>
      cases e3 : mi ρ1 with
      | none => rw [e2, e3] at h; cases h
      | some k =>
        rw [e2, e3, Option.bind_some, Option.bind_some] at h
        split at h
        · rename_i ks ds k
          split at h
          · rename_i hc
            cases h; exact ⟨d, ρ1, ks, ds, k, rfl, e2, e3, hc.1, hc.2.1, hc.2.2, rfl⟩
          · cases h
        · cases h
theorem s_dputT {X : Cx} {cl : Nat → Addr} {E : En} {e o i : Expr} {pos pos' : Pos} {mi : RM} {g : GM} {L : Lens} (hu : X.A.units + 1 < cLine) (he : PE X e (tG ⟨X.K, cl⟩ E g)) (ho : PE X o (tPl ⟨X.K, cl⟩ E L)) (hi : PE X i (tR ⟨X.K, cl⟩ E mi)) (hs : swapsWith e (some (.Subscript o i pos')) pos.line X.env = pure false := by rfl) :
    PS X (.Assign [.Subscript o i pos'] e pos) (tS ⟨X.K, cl⟩ E (dputT L mi g)) :=
  PS_imp (ps_dput hu ho hi he hs) fun D σ H ⟨P, S, ρ, fl, ρ', w, hm, q⟩ => by
    obtain ⟨d, ρ1, ks, ds, k, eg, el, ei, hz, hd, hl, e3⟩ := dputT_split hm
    cases e3
    refine g_run w eg fun y H1 P1 S1 U w1 ex r1 => ?_
    have hU := Rep.frz0 d y U hd r1
    subst hU
    refine ⟨P1, S1, fz, ρ1, _, w1, el, fun v Sd R l => ?_⟩
    refine ⟨P1, S1, fz, ρ1, _, w1, ei, fun iv H2 P2 U2 g2 r2 => ?_⟩
    obtain ⟨a, xs, ev, hh, n, rl, kk⟩ := dt_upd (w1.grow g2) (l.grow g2) hz
    obtain ⟨kb, e2, hk, _⟩ := r2
    obtain ⟨S', w2, kT⟩ := kk (putL ks xs k y).1 (putL ks xs k y).2 (putL ks ds k d).2 (putL_len n) fun H' => putL_rep (Rep.mono g2.p d y fz (fun _ _ h => by simp [fz] at h) r1) n (repL_any rl H')
    refine ⟨a, _, ev, by rw [e2]; exact DPut.t hh (g2.ph _ _ hk) (by rw [List.length_zip, ← n, Nat.min_self]; exact lim_lt hl), ?_⟩
    rw [putK_zip n]
    rw [show (putL ks xs k y).1 = (putL ks ds k d).1 from putL_keys] at w2 ⊢
    exact q σ _ P2 S' w2 (ex.trans g2.p)
theorem dk_upd {c : LC} {E : En} {P H : Hp} {S T : FP} {σ : L2.St} {ρ : List D} {L : Lens} {v : V} {ks : List Key} {ds : List D} {Sd R : FP} (w : Wd c E P S T σ H ρ) (l : Loc c L P H σ ρ S v (.dK true ks ds) Sd R) (hz : frzL ds = true) : ∃ a xs, v = .ref a ∧ H a = some (.dK (ks.zip xs)) ∧ ks.length = xs.length ∧ RepL c P H ds xs fz ∧
    ∀ (js : List Key) (ys : List V) (es : List D), js.length = ys.length → (∀ H', RepL c P H' es ys fz) → ∃ S', Wd c E P S' T σ (upd H a (.dK (js.zip ys))) (L.put ρ (.dK true js es)) ∧ ∀ b u, 0 < T b → H b = some u → upd H a (.dK (js.zip ys)) b = some u := by
  have w' : Wd c E P S (fa T fz) σ H ρ := by rw [fa_fz]; exact w
  obtain ⟨a, xs, T1, e1, hh, n, rl, hf⟩ := l.rep
  have z := RepL.frz0 ds xs T1 hz rl
  subst z
  have hS : ∀ b, Sd b = one a b + fz b := fun b => by rw [hf]; rfl
  refine ⟨a, xs, e1, hh, n, rl, fun js ys es hl hr => ?_⟩
  have w2 := loc_own w' l hS (fun b hb => by simp [fz] at hb) (.dK (js.zip ys)) (.dK true js es) fz fz ⟨a, ys, fz, e1, upd_same, hl, hr _, rfl⟩ fun b => by simp only [fz]; omega
  rw [fa_fz T] at w2
  refine ⟨_, w2, fun b u hb hu => ?_⟩
  have : b ≠ a := fun q => by
    subst q
    have := w.le b; have := l.sum b; have := hS b
    simp [one] at *; omega
  rw [upd_ne this]; exact hu
def dputK (L : Lens) (mi : RM) (g : GM) : SM := fun ρ => (g ρ).bind fun r => (L.get r.2).bind fun l => (mi r.2).bind fun k => match l, k with
  | .dK true ks ds, k => (keyD k).bind fun k => if frzL ds = true ∧ frz r.1 = true ∧ ks.length < LIM then some (.nx, L.put r.2 (.dK true (putL ks ds k r.1).1 (putL ks ds k r.1).2)) else none
  | _, _ => none
theorem dputK_split {L : Lens} {mi : RM} {g : GM} {ρ : List D} {r : Fl × List D} (h : dputK L mi g ρ = some r) : ∃ d ρ1 ks ds dk k, g ρ = some (d, ρ1) ∧ L.get ρ1 = some (.dK true ks ds) ∧ mi ρ1 = some dk ∧ keyD dk = some k ∧ frzL ds = true ∧ frz d = true ∧ ks.length < LIM ∧ r = (.nx, L.put ρ1 (.dK true (putL ks ds k d).1 (putL ks ds k d).2)) := by
  unfold dputK at h
  cases e1 : g ρ with
  | none => rw [e1] at h; cases h
  | some r1 =>
    obtain ⟨d, ρ1⟩ := r1
    rw [e1, Option.bind_some] at h
    dsimp only at h
    cases e2 : L.get ρ1 with
    | none => rw [e2] at h; cases h
    | some l =>
      cases e3 : mi ρ1 with
      | none => rw [e2, e3] at h; cases h
      | some k =>
        rw [e2, e3, Option.bind_some, Option.bind_some] at h
        split at h
        · rename_i ks ds
          cases e4 : keyD k with
          | none => rw [e4] at h; cases h
          | some kk =>
            rw [e4, Option.bind_some] at h
            split at h
            · rename_i hc
              cases h; exact ⟨d, ρ1, ks, ds, k, kk, rfl, e2, e3, e4, hc.1, hc.2.1, hc.2.2, rfl⟩
            · cases h
        · cases h
theorem s_dputK {X : Cx} {cl : Nat → Addr} {E : En} {e o i : Expr} {pos pos' : Pos} {mi : RM} {g : GM} {L : Lens} (hu : X.A.units + 1 < cLine) (he : PE X e (tG ⟨X.K, cl⟩ E g)) (ho : PE X o (tPl ⟨X.K, cl⟩ E L)) (hi : PE X i (tR ⟨X.K, cl⟩ E mi)) (hs : swapsWith e (some (.Subscript o i pos')) pos.line X.env = pure false := by rfl) :
    PS X (.Assign [.Subscript o i pos'] e pos) (tS ⟨X.K, cl⟩ E (dputK L mi g)) :=
  PS_imp (ps_dput hu ho hi he hs) fun D σ H ⟨P, S, ρ, fl, ρ', w, hm, q⟩ => by
    obtain ⟨d, ρ1, ks, ds, dk, k, eg, el, ei, ek, hz, hd, hl, e3⟩ := dputK_split hm
    cases e3
    refine g_run w eg fun y H1 P1 S1 U w1 ex r1 => ?_
    have hU := Rep.frz0 d y U hd r1
    subst hU
    refine ⟨P1, S1, fz, ρ1, _, w1, el, fun v Sd R l => ?_⟩
    refine ⟨P1, S1, fz, ρ1, _, w1, ei, fun iv H2 P2 U2 g2 r2 => ?_⟩
    obtain ⟨a, xs, ev, hh, n, rl, kk⟩ := dk_upd (w1.grow g2) (l.grow g2) hz
    have e2 := keyD_v ek r2
    obtain ⟨S', w2, kT⟩ := kk (putL ks xs k y).1 (putL ks xs k y).2 (putL ks ds k d).2 (putL_len n) fun H' => putL_rep (Rep.mono g2.p d y fz (fun _ _ h => by simp [fz] at h) r1) n (repL_any rl H')
    refine ⟨a, _, ev, by rw [e2]; exact DPut.k hh (by rw [List.length_zip, ← n, Nat.min_self]; exact lim_lt hl), ?_⟩
    rw [putK_zip n]
    rw [show (putL ks xs k y).1 = (putL ks ds k d).1 from putL_keys] at w2 ⊢
    exact q σ _ P2 S' w2 (ex.trans g2.p)
theorem FQ.dT0 {c : LC} {P H : Hp} {Q : VK} (h : FQ c P H (.dT true [] []) Q) (e : Ex P H) : ∀ p, H p = none → Q (.ref p) (upd H p (.dT [])) := fun p hp => by
  have hP := none_of e hp
  exact h _ _ P (one p) ⟨.refl _, ex_new hp, e.trans (ex_new hp), fun _ z => .inl z⟩ ⟨p, [], fz, rfl, upd_same, rfl, ⟨rfl, rfl⟩, by rw [fa_fz]⟩ one_le fun a z => by rw [one_pos z]; exact ⟨hp, hP⟩
def newT : RM := fun _ => some (.dT true [] [])
theorem f_dnewT {X : Cx} {cl : Nat → Addr} {E : En} {pos : Pos} : PE X (.Dict [] [] pos) (tF ⟨X.K, cl⟩ E newT) := PE_imp pe_dnewT fun σ H Q ⟨P, S, T, ρ, d, w, hm, q⟩ => by
  cases hm
  exact fun p hp => q.dT0 w.ph p hp
/-! ### str of a whole number -/
def strD : List D → Option D
  | [.int i] => if i.natAbs.log2 < 1920 then some (.str ((toString i).toList.map Char.toNat)) else none
  | _ => none
theorem op_strD {c : LC} : OpA c (fun xs H Q => ∃ i, xs = [.int i] ∧ i.natAbs.log2 < 1920 ∧ Q (.str (toString i)) H) strD := by
  intro P H e ds d vs U hf r Q q
  unfold strD at hf
  split at hf
  · split at hf
    · rename_i i hl
      cases hf
      obtain ⟨v, T, rfl, r1⟩ := repL1 r
      obtain ⟨rfl, _⟩ := r1
      exact ⟨i, rfl, hl, q.flat e ⟨congrArg V.str (Str.ofString_eq_toList _), rfl⟩⟩
    · cases hf
  · cases hf
end LI
/-! UA: things with types, what stands for them, and how a def's worth is lifted. -/
namespace LI
open PySem L2

/-! ### what stands for a thing -/
abbrev Ts := List Char
def eU : Unit → D := fun _ => .non
def eI : Int → D := .int
def eB : Bool → D := .bl
def eS (s : Ts) : D := .str (s.map Char.toNat)
def eC : List Int → D := .scr
def eK (ss : List Ts) : D := .kst (ss.map fun s => s.map Char.toNat)
def eO {α : Type} (e : α → D) : Option α → D
  | none => .non
  | some x => e x
def eL {α : Type} (o : Bool) (e : α → D) (xs : List α) : D := .lst o (xs.map e)
def e1 {α : Type} (a : α → D) (t : α) : D := .tup [a t]
def e2 {α β : Type} (a : α → D) (b : β → D) (t : α × β) : D := .tup [a t.1, b t.2]
def e3 {α β γ : Type} (a : α → D) (b : β → D) (c : γ → D) (t : α × β × γ) : D := .tup [a t.1, b t.2.1, c t.2.2]
def e4 {α β γ δ : Type} (a : α → D) (b : β → D) (c : γ → D) (d : δ → D) (t : α × β × γ × δ) : D := .tup [a t.1, b t.2.1, c t.2.2.1, d t.2.2.2]
def e5 {α β γ δ ε : Type} (a : α → D) (b : β → D) (c : γ → D) (d : δ → D) (e : ε → D) (t : α × β × γ × δ × ε) : D := .tup [a t.1, b t.2.1, c t.2.2.1, d t.2.2.2.1, e t.2.2.2.2]
def e6 {α β γ δ ε ζ : Type} (a : α → D) (b : β → D) (c : γ → D) (d : δ → D) (e : ε → D) (f : ζ → D) (t : α × β × γ × δ × ε × ζ) : D := .tup [a t.1, b t.2.1, c t.2.2.1, d t.2.2.2.1, e t.2.2.2.2.1, f t.2.2.2.2.2]
/-- a thing of any kind -/
structure An where
  d : D
  ng : notGone d = true
  fz : frz d = true
def eA (a : An) : D := a.d

class Ng {α : Type} (e : α → D) : Prop where
  ng : ∀ x, notGone (e x) = true
class Fz {α : Type} (e : α → D) : Prop where
  fz : ∀ x, frz (e x) = true
class Ic {α : Type} (e : α → D) (e' : outParam (α → D)) : Prop where
  ic : ∀ x, ice (e x) = e' x
class Fla {α : Type} (e : α → D) : Prop where
  fl : ∀ x, isFlat (e x) = true
section
variable {α β γ δ ε ζ : Type} {a : α → D} {b : β → D} {c : γ → D} {d : δ → D} {e : ε → D} {f : ζ → D} {a' : α → D} {b' : β → D} {c' : γ → D} {d' : δ → D} {e' : ε → D} {f' : ζ → D} {o : Bool}
instance : Ng eU := ⟨fun _ => rfl⟩
instance : Ng eI := ⟨fun _ => rfl⟩
instance : Ng eB := ⟨fun _ => rfl⟩
instance : Ng eS := ⟨fun _ => rfl⟩
instance : Ng eC := ⟨fun _ => rfl⟩
instance : Ng eK := ⟨fun _ => rfl⟩
instance [Ng a] : Ng (eO a) := ⟨fun x => by cases x with | none => rfl | some x => exact Ng.ng x⟩
instance : Ng (eL o a) := ⟨fun _ => rfl⟩
instance : Ng (e1 a) := ⟨fun _ => rfl⟩
instance : Ng (e2 a b) := ⟨fun _ => rfl⟩
instance : Ng (e3 a b c) := ⟨fun _ => rfl⟩
instance : Ng (e4 a b c d) := ⟨fun _ => rfl⟩
instance : Ng (e5 a b c d e) := ⟨fun _ => rfl⟩
instance : Ng (e6 a b c d e f) := ⟨fun _ => rfl⟩
instance : Ng eA := ⟨fun x => x.ng⟩
instance : Fla eU := ⟨fun _ => rfl⟩
instance : Fla eI := ⟨fun _ => rfl⟩
instance : Fla eB := ⟨fun _ => rfl⟩
instance : Fla eS := ⟨fun _ => rfl⟩
instance [Fla a] : Fla (eO a) := ⟨fun x => by cases x with | none => rfl | some x => exact Fla.fl x⟩
instance : Fz eU := ⟨fun _ => rfl⟩
instance : Fz eI := ⟨fun _ => rfl⟩
instance : Fz eB := ⟨fun _ => rfl⟩
instance : Fz eS := ⟨fun _ => rfl⟩
instance : Fz eC := ⟨fun _ => rfl⟩
instance : Fz eK := ⟨fun _ => rfl⟩
instance : Fz eA := ⟨fun x => x.fz⟩
instance [Fz a] : Fz (eO a) := ⟨fun x => by cases x with | none => rfl | some x => exact Fz.fz x⟩
theorem fz_map [Fz a] (xs : List α) : frzL (xs.map a) = true := frzL_map.mpr fun x _ => Fz.fz x
instance [Fz a] : Fz (eL false a) := ⟨fun x => by simp [eL, Fz.fz]⟩
instance [Fz a] : Fz (e1 a) := ⟨fun x => by simp [e1, Fz.fz]⟩
instance [Fz a] [Fz b] : Fz (e2 a b) := ⟨fun x => by simp [e2, Fz.fz]⟩
instance [Fz a] [Fz b] [Fz c] : Fz (e3 a b c) := ⟨fun x => by simp [e3, Fz.fz]⟩
instance [Fz a] [Fz b] [Fz c] [Fz d] : Fz (e4 a b c d) := ⟨fun x => by simp [e4, Fz.fz]⟩
instance [Fz a] [Fz b] [Fz c] [Fz d] [Fz e] : Fz (e5 a b c d e) := ⟨fun x => by simp [e5, Fz.fz]⟩
instance [Fz a] [Fz b] [Fz c] [Fz d] [Fz e] [Fz f] : Fz (e6 a b c d e f) := ⟨fun x => by simp [e6, Fz.fz]⟩
instance : Ic eU eU := ⟨fun _ => rfl⟩
instance : Ic eI eI := ⟨fun _ => rfl⟩
instance : Ic eB eB := ⟨fun _ => rfl⟩
instance : Ic eS eS := ⟨fun _ => rfl⟩
instance : Ic eC eC := ⟨fun _ => rfl⟩
instance : Ic eK eK := ⟨fun _ => rfl⟩
instance : Ic eA eA := ⟨fun x => ice_frz _ x.fz⟩
instance [Ic a a'] : Ic (eO a) (eO a') := ⟨fun x => by cases x with | none => rfl | some x => exact Ic.ic x⟩
instance [Ic a a'] : Ic (eL o a) (eL false a') := ⟨fun x => by simp [eL, Ic.ic (e := a)]⟩
instance [Ic a a'] : Ic (e1 a) (e1 a') := ⟨fun x => by simp [e1, Ic.ic (e := a)]⟩
instance [Ic a a'] [Ic b b'] : Ic (e2 a b) (e2 a' b') := ⟨fun x => by simp [e2, Ic.ic (e := a), Ic.ic (e := b)]⟩
instance [Ic a a'] [Ic b b'] [Ic c c'] : Ic (e3 a b c) (e3 a' b' c') := ⟨fun x => by simp [e3, Ic.ic (e := a), Ic.ic (e := b), Ic.ic (e := c)]⟩
instance [Ic a a'] [Ic b b'] [Ic c c'] [Ic d d'] : Ic (e4 a b c d) (e4 a' b' c' d') := ⟨fun x => by simp [e4, Ic.ic (e := a), Ic.ic (e := b), Ic.ic (e := c), Ic.ic (e := d)]⟩
instance [Ic a a'] [Ic b b'] [Ic c c'] [Ic d d'] [Ic e e'] : Ic (e5 a b c d e) (e5 a' b' c' d' e') := ⟨fun x => by simp [e5, Ic.ic (e := a), Ic.ic (e := b), Ic.ic (e := c), Ic.ic (e := d), Ic.ic (e := e)]⟩
instance [Ic a a'] [Ic b b'] [Ic c c'] [Ic d d'] [Ic e e'] [Ic f f'] : Ic (e6 a b c d e f) (e6 a' b' c' d' e' f') := ⟨fun x => by simp [e6, Ic.ic (e := a), Ic.ic (e := b), Ic.ic (e := c), Ic.ic (e := d), Ic.ic (e := e), Ic.ic (e := f)]⟩
end

/-! what a pair's first stands for -/
instance {α β : Type} {a : α → D} [Ng a] : Ng (fun p : α × β => a p.1) := ⟨fun p => Ng.ng p.1⟩
instance {α β : Type} {a : α → D} [Fz a] : Fz (fun p : α × β => a p.1) := ⟨fun p => Fz.fz p.1⟩
theorem icFst {α β : Type} {a a' : α → D} [Ic a a'] : Ic (fun p : α × β => a p.1) (fun p => a' p.1) := ⟨fun p => Ic.ic (e := a) p.1⟩

/-! ### equal -/
theorem toNat_lt (c : Char) : c.toNat < 1114112 := by
  rcases c.valid with h | ⟨_, h⟩
  · have : c.toNat < 55296 := h
    omega
  · exact h
theorem toNat_inj {a b : Char} (h : a.toNat = b.toNat) : a = b := Char.toNat_inj.mp h
/-- things that may be compared: by n at most of depth -/
class Pe {α : Type} (e : α → D) (n : outParam Nat) where
  p : α → PyData
  to : ∀ x, toP (e x) = some (p x)
  lay : ∀ x, (p x).canLay0 = true
  dep : ∀ x, (p x).depth ≤ n
  eq : ∀ x y, (p x).eqv (p y) = true ↔ x = y
instance : Pe eU 0 := ⟨fun _ => .none, fun _ => rfl, fun _ => by simp [PyData.canLay0], fun _ => by simp [PyData.depth], fun _ _ => by simp [PyData.eqv]⟩
instance : Pe eI 0 := ⟨.int, fun _ => rfl, fun _ => by simp [PyData.canLay0], fun _ => by simp [PyData.depth], fun _ _ => by simp [PyData.eqv]⟩
instance : Pe eB 0 := ⟨.bool, fun _ => rfl, fun _ => by simp [PyData.canLay0], fun _ => by simp [PyData.depth], fun _ _ => by simp [PyData.eqv]⟩
theorem ts_map_inj {x y : Ts} : x.map Char.toNat = y.map Char.toNat ↔ x = y :=
  ⟨fun h => List.map_inj_right (fun _ _ => toNat_inj) |>.mp h, fun h => by rw [h]⟩
instance : Pe eS 0 := ⟨fun s => .str ⟨(s.map Char.toNat).toArray⟩, fun _ => rfl, fun s => by
    simp [PyData.canLay0, PyData.strOk, toNat_lt], fun _ => by simp [PyData.depth], fun x y => by
    have : ((⟨(x.map Char.toNat).toArray⟩ : Str) == ⟨(y.map Char.toNat).toArray⟩) = (x.map Char.toNat == y.map Char.toNat) := str_beq _ _
    simp only [PyData.eqv, this, beq_iff_eq, ts_map_inj]⟩
theorem pe_toL {α : Type} {e : α → D} {n : Nat} [Pe e n] : ∀ xs : List α, toPL (xs.map e) = some (xs.map (Pe.p e))
  | [] => rfl
  | x :: xs => by simp [toPL, Pe.to (e := e) x, pe_toL xs]
theorem pe_lays {α : Type} {e : α → D} {n : Nat} [Pe e n] : ∀ xs : List α, PyData.canLayAll0 (xs.map (Pe.p e)) = true
  | [] => rfl
  | x :: xs => by simp [PyData.canLayAll0, Pe.lay (e := e) x, pe_lays xs]
theorem pe_deps {α : Type} {e : α → D} {n : Nat} [Pe e n] : ∀ xs : List α, PyData.depthAll (xs.map (Pe.p e)) ≤ n
  | [] => Nat.zero_le _
  | x :: xs => by have := Pe.dep (e := e) x; have := pe_deps (e := e) xs; simp [PyData.depthAll]; omega
theorem pe_eqs {α : Type} {e : α → D} {n : Nat} [Pe e n] : ∀ xs ys : List α, PyData.eqvAll (xs.map (Pe.p e)) (ys.map (Pe.p e)) = true ↔ xs = ys
  | [], [] => by simp [PyData.eqvAll]
  | [], y :: ys => by simp [PyData.eqvAll]
  | x :: xs, [] => by simp [PyData.eqvAll]
  | x :: xs, y :: ys => by simp [PyData.eqvAll, Pe.eq (e := e), pe_eqs xs ys]
instance {α : Type} {e : α → D} {n : Nat} {o : Bool} [Pe e n] : Pe (eL o e) (n + 1) := ⟨fun xs => .list (xs.map (Pe.p e)), fun xs => by simp [eL, toP, pe_toL], fun xs => by simp [PyData.canLay0, pe_lays], fun xs => by
  have := pe_deps (e := e) xs; simp [PyData.depth]; omega, fun x y => by simp [PyData.eqv, pe_eqs]⟩
instance : Pe eC 1 := ⟨fun ns => .list (ns.map .int), fun ns => rfl, fun ns => by simp [PyData.canLay0]; exact pe_lays (e := eI) ns, fun ns => by
  have : PyData.depthAll (ns.map .int) ≤ 0 := pe_deps (e := eI) ns
  simp [PyData.depth]; omega, fun x y => by simp only [PyData.eqv]; exact pe_eqs (e := eI) x y⟩
section
variable {α β γ δ ε ζ : Type} {a : α → D} {b : β → D} {c : γ → D} {d : δ → D} {e : ε → D} {f : ζ → D} {na nb nc nd ne nf : Nat}
/-- none, or a thing that is neither none -/
class Nn {α : Type} (e : α → D) : Prop where
  nn : ∀ x, ∀ p, toP (e x) = some p → p.eqv .none = false ∧ PyData.eqv .none p = false
instance : Nn eI := ⟨fun x p h => by cases h; simp [PyData.eqv]⟩
instance : Nn eB := ⟨fun x p h => by cases h; simp [PyData.eqv]⟩
instance : Nn eS := ⟨fun x p h => by cases h; simp [PyData.eqv]⟩
instance {o : Bool} : Nn (eL o a) := ⟨fun x p h => by
  simp only [eL, toP] at h
  cases z : toPL (x.map a) with
  | none => rw [z] at h; cases h
  | some q => rw [z] at h; cases h; simp [PyData.eqv]⟩
theorem nn_tup {ds : List D} {p : PyData} (h : toP (.tup ds) = some p) : p.eqv .none = false ∧ PyData.eqv .none p = false := by
  simp only [toP] at h
  cases z : toPL ds with
  | none => rw [z] at h; cases h
  | some q => rw [z] at h; cases h; simp [PyData.eqv]
instance : Nn (e1 a) := ⟨fun x p h => nn_tup h⟩
instance : Nn (e2 a b) := ⟨fun x p h => nn_tup h⟩
instance : Nn (e3 a b c) := ⟨fun x p h => nn_tup h⟩
instance : Nn (e4 a b c d) := ⟨fun x p h => nn_tup h⟩
instance : Nn (e5 a b c d e) := ⟨fun x p h => nn_tup h⟩
instance : Nn (e6 a b c d e f) := ⟨fun x p h => nn_tup h⟩
instance [Nn a] [Pe a na] : Pe (eO a) na := ⟨fun x => match x with | none => .none | some x => Pe.p a x, fun x => by cases x with | none => rfl | some x => exact Pe.to (e := a) x,
  fun x => by cases x with | none => simp [PyData.canLay0] | some x => exact Pe.lay (e := a) x, fun x => by cases x with | none => simp [PyData.depth] | some x => exact Pe.dep (e := a) x, fun x y => by
    cases x with
    | none => cases y with
      | none => simp [PyData.eqv]
      | some y => have := (Nn.nn (e := a) y _ (Pe.to (e := a) y)).2; simp [this]
    | some x => cases y with
      | none => have := (Nn.nn (e := a) x _ (Pe.to (e := a) x)).1; simp [this]
      | some y => simp [Pe.eq (e := a)]⟩
instance [Pe a na] : Pe (e1 a) (na + 1) := ⟨fun t => .tuple [Pe.p a t], fun t => by simp [e1, toP, toPL, Pe.to (e := a)], fun t => by simp [PyData.canLay0, PyData.canLayAll0, Pe.lay (e := a)], fun t => by
  have h1 := Pe.dep (e := a) t; simp [PyData.depth, PyData.depthAll]; omega, fun x y => by simp [PyData.eqv, PyData.eqvAll, Pe.eq (e := a)]⟩
instance [Pe a na] [Pe b nb] : Pe (e2 a b) (max na nb + 1) := ⟨fun t => .tuple [Pe.p a t.1, Pe.p b t.2], fun t => by simp [e2, toP, toPL, Pe.to (e := a), Pe.to (e := b)], fun t => by simp [PyData.canLay0, PyData.canLayAll0, Pe.lay (e := a), Pe.lay (e := b)], fun t => by
  have h1 := Pe.dep (e := a) t.1; have h2 := Pe.dep (e := b) t.2; simp [PyData.depth, PyData.depthAll]; omega, fun x y => by simp [PyData.eqv, PyData.eqvAll, Pe.eq (e := a), Pe.eq (e := b), Prod.ext_iff]⟩
instance [Pe a na] [Pe b nb] [Pe c nc] : Pe (e3 a b c) (max na (max nb nc) + 1) := ⟨fun t => .tuple [Pe.p a t.1, Pe.p b t.2.1, Pe.p c t.2.2], fun t => by simp [e3, toP, toPL, Pe.to (e := a), Pe.to (e := b), Pe.to (e := c)], fun t => by simp [PyData.canLay0, PyData.canLayAll0, Pe.lay (e := a), Pe.lay (e := b), Pe.lay (e := c)], fun t => by
  have h1 := Pe.dep (e := a) t.1; have h2 := Pe.dep (e := b) t.2.1; have h3 := Pe.dep (e := c) t.2.2; simp [PyData.depth, PyData.depthAll]; omega, fun x y => by simp [PyData.eqv, PyData.eqvAll, Pe.eq (e := a), Pe.eq (e := b), Pe.eq (e := c), Prod.ext_iff]⟩
instance [Pe a na] [Pe b nb] [Pe c nc] [Pe d nd] : Pe (e4 a b c d) (max na (max nb (max nc nd)) + 1) := ⟨fun t => .tuple [Pe.p a t.1, Pe.p b t.2.1, Pe.p c t.2.2.1, Pe.p d t.2.2.2], fun t => by simp [e4, toP, toPL, Pe.to (e := a), Pe.to (e := b), Pe.to (e := c), Pe.to (e := d)], fun t => by simp [PyData.canLay0, PyData.canLayAll0, Pe.lay (e := a), Pe.lay (e := b), Pe.lay (e := c), Pe.lay (e := d)], fun t => by
  have h1 := Pe.dep (e := a) t.1; have h2 := Pe.dep (e := b) t.2.1; have h3 := Pe.dep (e := c) t.2.2.1; have h4 := Pe.dep (e := d) t.2.2.2; simp [PyData.depth, PyData.depthAll]; omega, fun x y => by simp [PyData.eqv, PyData.eqvAll, Pe.eq (e := a), Pe.eq (e := b), Pe.eq (e := c), Pe.eq (e := d), Prod.ext_iff]⟩
instance [Pe a na] [Pe b nb] [Pe c nc] [Pe d nd] [Pe e ne] : Pe (e5 a b c d e) (max na (max nb (max nc (max nd ne))) + 1) := ⟨fun t => .tuple [Pe.p a t.1, Pe.p b t.2.1, Pe.p c t.2.2.1, Pe.p d t.2.2.2.1, Pe.p e t.2.2.2.2], fun t => by simp [e5, toP, toPL, Pe.to (e := a), Pe.to (e := b), Pe.to (e := c), Pe.to (e := d), Pe.to (e := e)], fun t => by simp [PyData.canLay0, PyData.canLayAll0, Pe.lay (e := a), Pe.lay (e := b), Pe.lay (e := c), Pe.lay (e := d), Pe.lay (e := e)], fun t => by
  have h1 := Pe.dep (e := a) t.1; have h2 := Pe.dep (e := b) t.2.1; have h3 := Pe.dep (e := c) t.2.2.1; have h4 := Pe.dep (e := d) t.2.2.2.1; have h5 := Pe.dep (e := e) t.2.2.2.2; simp [PyData.depth, PyData.depthAll]; omega, fun x y => by simp [PyData.eqv, PyData.eqvAll, Pe.eq (e := a), Pe.eq (e := b), Pe.eq (e := c), Pe.eq (e := d), Pe.eq (e := e), Prod.ext_iff]⟩
instance [Pe a na] [Pe b nb] [Pe c nc] [Pe d nd] [Pe e ne] [Pe f nf] : Pe (e6 a b c d e f) (max na (max nb (max nc (max nd (max ne nf)))) + 1) := ⟨fun t => .tuple [Pe.p a t.1, Pe.p b t.2.1, Pe.p c t.2.2.1, Pe.p d t.2.2.2.1, Pe.p e t.2.2.2.2.1, Pe.p f t.2.2.2.2.2], fun t => by simp [e6, toP, toPL, Pe.to (e := a), Pe.to (e := b), Pe.to (e := c), Pe.to (e := d), Pe.to (e := e), Pe.to (e := f)], fun t => by simp [PyData.canLay0, PyData.canLayAll0, Pe.lay (e := a), Pe.lay (e := b), Pe.lay (e := c), Pe.lay (e := d), Pe.lay (e := e), Pe.lay (e := f)], fun t => by
  have h1 := Pe.dep (e := a) t.1; have h2 := Pe.dep (e := b) t.2.1; have h3 := Pe.dep (e := c) t.2.2.1; have h4 := Pe.dep (e := d) t.2.2.2.1; have h5 := Pe.dep (e := e) t.2.2.2.2.1; have h6 := Pe.dep (e := f) t.2.2.2.2.2; simp [PyData.depth, PyData.depthAll]; omega, fun x y => by simp [PyData.eqv, PyData.eqvAll, Pe.eq (e := a), Pe.eq (e := b), Pe.eq (e := c), Pe.eq (e := d), Pe.eq (e := e), Pe.eq (e := f), Prod.ext_iff]⟩
end
theorem eqB_ice (x y : D) : eqB x y = eqB (ice x) (ice y) := by unfold eqB; rw [toP_ice, toP_ice]
theorem eqB_pe {α : Type} [DecidableEq α] {e1 e2 e' : α → D} {n : Nat} [Ic e1 e'] [Ic e2 e'] [Pe e' n] (hn : n ≤ 64) (x y : α) : eqB (e1 x) (e2 y) = some (decide (x = y)) := by
  rw [eqB_ice, Ic.ic (e := e1), Ic.ic (e := e2)]
  unfold eqB
  have s : ∀ z, SeqAt.shaped (Pe.p e' z) = true := fun z => by
    have := Pe.dep (e := e') z
    simp [SeqAt.shaped, Pe.lay (e := e') z]; omega
  have q : (Pe.p e' x).eqv (Pe.p e' y) = decide (x = y) := by
    rw [Bool.eq_iff_iff, Pe.eq, decide_eq_true_iff]
  simp only [Pe.to (e := e'), Option.bind_some, s, and_self, if_true, q]
end LI
/-! UB: a def's worth, lifted to things with types: expressions. -/
namespace LI
open PySem L2

def Ev {α : Type} (e : α → D) (m : RM) (ρ : List D) (o : Option α) : Prop := ∀ x, o = some x → m ρ = some (e x)
def Et (m : BM) (ρ : List D) (o : Option Bool) : Prop := ∀ x, o = some x → m ρ = some x
def Eg {α : Type} (e : α → D) (env : α → List D) (g : GM) (ρ : List D) (o : Option α) : Prop := ∀ x, o = some x → g ρ = some (e x, env x)
structure Ea {τ : Type} (e e' : τ → List D) (z : Bool) (ms : AM) (ρ : List D) (o : Option τ) : Prop where
  run : ∀ x, o = some x → ms ρ = some (e x)
  ic : ∀ x, iceL (e x) = e' x
  fz : z = true → ∀ x, frzL (e x) = true
def Ei {α : Type} (e : α → D) (ms : AM) (ρ : List D) (o : Option (List α)) : Prop := ∀ xs, o = some xs → ms ρ = some (xs.map e)
def Eo (m : OM) (ρ : List D) (o : Option (Option Int)) : Prop := ∀ x, o = some x → m ρ = some x

theorem ob_some {α β : Type} {o : Option α} {k : α → Option β} {z : β} (h : o.bind k = some z) : ∃ x, o = some x ∧ k x = some z := by
  cases o with
  | none => cases h
  | some x => exact ⟨x, rfl, h⟩

section
variable {α β γ δ : Type} {a : α → D} {b : β → D} {c : γ → D} {e : α → D} {e' : α → D} {m ma mb mc : RM} {ρ : List D} {o oa : Option α} {ob : Option β} {oc : Option γ}
theorem x_v {i : Nat} (e : α → D) (x : α) [Ng e] (h : ρ[i]? = some (e x)) : Ev e (vM i) ρ (some x) := fun y hy => by
  cases hy; rw [LI.ev_v, h]; simp [Ng.ng]
theorem x_k {d : D} (e : α → D) (x : α) (h : d = e x) : Ev e (kM d) ρ (some x) := fun y hy => by cases hy; rw [LI.ev_k, h]
theorem x_eq (h : Ev e m ρ o) {o' : Option α} (q : o' = o) : Ev e m ρ o' := by rw [q]; exact h
theorem x_map {e : α → D} {f : β → D} (k : α → β) (hk : ∀ x, f (k x) = e x) (h : Ev e m ρ o) : Ev f m ρ (o.bind fun x => some (k x)) := fun y hy => by
  obtain ⟨x, h1, h2⟩ := ob_some hy; cases h2; rw [h x h1, hk]
theorem x_some (h : Ev e m ρ o) : Ev (eO e) m ρ (o.bind fun x => some (some x)) := x_map some (fun _ => rfl) h
theorem x_un {o : Option (Option α)} (h : Ev (eO e) m ρ o) : Ev e m ρ (o.bind fun x => x) := fun y hy => by
  obtain ⟨x, h1, h2⟩ := ob_some hy; rw [h x h1, h2]; rfl
def an {α : Type} (e : α → D) [Ng e] [Fz e] (x : α) : An := ⟨e x, Ng.ng x, Fz.fz x⟩
theorem x_any [Ng e] [Fz e] (h : Ev e m ρ o) : Ev eA m ρ (o.bind fun x => some (an e x)) := x_map (an e) (fun _ => rfl) h
theorem x_fr [Fz e] (h : Ev e m ρ o) : Ev e (frM m) ρ o := fun y hy => by rw [LI.ev_fr, h y hy]; simp [Fz.fz]
theorem x_cold [Ic e e'] (h : Ev e m ρ o) : Ev e' (coldM m) ρ o := fun y hy => by rw [LI.ev_cold, h y hy, Option.map_some, Ic.ic]

/-! ### operations -/
def O2 (f : D → D → Option D) (a : α → D) (b : β → D) (c : γ → D) (g : α → β → Option γ) : Prop := ∀ x y z, g x y = some z → f (a x) (b y) = some (c z)
def O1 (f : D → Option D) (a : α → D) (c : γ → D) (g : α → Option γ) : Prop := ∀ x z, g x = some z → f (a x) = some (c z)
theorem x_m2 {f : D → D → Option D} {g : α → β → Option γ} (hf : O2 f a b c g) (ha : Ev a ma ρ oa) (hb : Ev b mb ρ ob) : Ev c (m2 f ma mb) ρ (oa.bind fun x => ob.bind fun y => g x y) := fun z hz => by
  obtain ⟨x, h1, h2⟩ := ob_some hz
  obtain ⟨y, h3, h4⟩ := ob_some h2
  rw [LI.ev_m2, ha x h1, Option.bind_some, hb y h3, Option.bind_some, hf x y z h4]
theorem x_m1 {f : D → Option D} {g : α → Option γ} (hf : O1 f a c g) (ha : Ev a ma ρ oa) : Ev c (m1 f ma) ρ (oa.bind g) := fun z hz => by
  obtain ⟨x, h1, h2⟩ := ob_some hz
  rw [LI.ev_m1, ha x h1, Option.bind_some, hf x z h2]
theorem x_a1 {f : List D → Option D} {g : α → Option γ} (hf : O1 (fun d => f [d]) a c g) (ha : Ev a ma ρ oa) : Ev c (mA f (consM ma nilM)) ρ (oa.bind g) := fun z hz => by
  obtain ⟨x, h1, h2⟩ := ob_some hz
  have := hf x z h2
  simp only [ev_mA, LI.ev_cons, ha x h1, Option.bind_some, LI.ev_nil, Option.map_some]
  exact this
theorem x_a2 {f : List D → Option D} {g : α → β → Option γ} (hf : O2 (fun d u => f [d, u]) a b c g) (ha : Ev a ma ρ oa) (hb : Ev b mb ρ ob) : Ev c (mA f (consM ma (consM mb nilM))) ρ (oa.bind fun x => ob.bind fun y => g x y) := fun z hz => by
  obtain ⟨x, h1, h2⟩ := ob_some hz
  obtain ⟨y, h3, h4⟩ := ob_some h2
  have := hf x y z h4
  simp only [ev_mA, LI.ev_cons, ha x h1, hb y h3, Option.bind_some, LI.ev_nil, Option.map_some]
  exact this
theorem o2_tot {f : D → D → Option D} {g : α → β → γ} (h : ∀ x y, f (a x) (b y) = some (c (g x y))) : O2 f a b c (fun x y => some (g x y)) := fun x y z hz => by cases hz; exact h x y
theorem o1_tot {f : D → Option D} {g : α → γ} (h : ∀ x, f (a x) = some (c (g x))) : O1 f a c (fun x => some (g x)) := fun x z hz => by cases hz; exact h x
end

/-- of texts -/
def catS (x y : Ts) : Option Ts := if x.length + y.length ≤ LIM then some (x ++ y) else none
def catL {α : Type} (x y : List α) : Option (List α) := if x.length + y.length ≤ LIM then some (x ++ y) else none
def repS (x : Ts) (k : Int) : Option Ts := if k ≤ 1000000 ∧ -1000000 ≤ k ∧ x.length * k.toNat ≤ LIM then some (List.replicate k.toNat x).flatten else none
def repL {α : Type} (x : List α) (k : Int) : Option (List α) := if k ≤ 1000000 ∧ -1000000 ≤ k ∧ x.length * k.toNat ≤ LIM then some (List.replicate k.toNat x).flatten else none
def mulT (x y : Int) : Option Int := if (-(2 ^ 64) < x ∧ x < 2 ^ 64) ∨ (-(2 ^ 64) < y ∧ y < 2 ^ 64) then some (x * y) else none
def modT (x y : Int) : Option Int := if 0 < y then some (x % y) else none
def fdivT (x y : Int) : Option Int := if 0 < y ∧ y.natAbs.log2 < 9000 then some (x / y) else none
theorem o2_addI : O2 addD eI eI eI (fun x y => some (x + y)) := o2_tot fun _ _ => rfl
theorem o2_catS : O2 addD eS eS eS catS := fun x y z h => by
  unfold catS at h; split at h
  · cases h; simp [eS, addD, *]
  · cases h
theorem o2_catL {α : Type} {a : α → D} [Fz a] {o p : Bool} : O2 addD (eL o a) (eL p a) (eL true a) catL := fun x y z h => by
  unfold catL at h; split at h
  · cases h; simp [eL, addD, *, Fz.fz]
  · cases h
theorem o2_subI : O2 subD eI eI eI (fun x y => some (x - y)) := o2_tot fun _ _ => rfl
theorem o2_mul : O2 mulD eI eI eI mulT := fun x y z h => by
  unfold mulT at h; split at h
  · cases h; rename_i q; exact if_pos q
  · cases h
theorem o2_repS : O2 mulD eS eI eS repS := fun x y z h => by
  unfold repS at h; split at h
  · cases h; rename_i q; simp [eS, eI, mulD, q]
  · cases h
theorem o2_repL {α : Type} {a : α → D} [Fz a] {o : Bool} : O2 mulD (eL o a) eI (eL true a) repL := fun x y z h => by
  unfold repL at h; split at h
  · cases h; rename_i q; simp [eL, eI, mulD, q, Fz.fz]
  · cases h
theorem o2_mod : O2 modD eI eI eI modT := fun x y z h => by
  unfold modT at h; split at h
  · cases h; rename_i q; exact if_pos q
  · cases h
theorem o2_fdiv : O2 fdivD eI eI eI fdivT := fun x y z h => by
  unfold fdivT at h; split at h
  · cases h; rename_i q; exact if_pos q
  · cases h
theorem o1_neg : O1 negD eI eI (fun x => some (-x)) := o1_tot fun _ => rfl
section
variable {α β : Type} {e : α → D} {m ma mb : RM} {ρ : List D} {oa ob : Option Int}
def b64 (k : Int) : Bool := decide (-18446744073709551616 < k) && decide (k < 18446744073709551616)
theorem b64_in {k : Int} (h : b64 k = true) : -(2 ^ 64) < k ∧ k < 2 ^ 64 := by
  unfold b64 at h; simp at h; exact ⟨by omega, by omega⟩
theorem x_mulR (k : Int) (hk : b64 k = true) (ha : Ev eI ma ρ oa) : Ev eI (m2 mulD ma (kM (.int k))) ρ (oa.bind fun x => some (x * k)) := fun z hz => by
  obtain ⟨x, h1, h2⟩ := ob_some hz; cases h2
  rw [LI.ev_m2, ha x h1]; exact if_pos (.inr (b64_in hk))
theorem x_mulK (k : Int) (hk : b64 k = true) (ha : Ev eI ma ρ oa) : Ev eI (m2 mulD (kM (.int k)) ma) ρ (oa.bind fun x => some (k * x)) := fun z hz => by
  obtain ⟨x, h1, h2⟩ := ob_some hz; cases h2
  rw [LI.ev_m2, LI.ev_k, Option.bind_some, ha x h1]; exact if_pos (.inl (b64_in hk))
theorem x_modK (k : Int) (hk : decide (0 < k) = true) (ha : Ev eI ma ρ oa) : Ev eI (m2 modD ma (kM (.int k))) ρ (oa.bind fun x => some (x % k)) := fun z hz => by
  obtain ⟨x, h1, h2⟩ := ob_some hz; cases h2
  rw [LI.ev_m2, ha x h1]; exact if_pos (of_decide_eq_true hk)
theorem log_lt {k : Int} (h : b64 k = true) : k.natAbs.log2 < 9000 := by
  have := b64_in h
  by_cases z : k.natAbs = 0
  · rw [z]; decide
  · have h1 : k.natAbs < 2 ^ 9000 := Nat.lt_of_lt_of_le (show k.natAbs < 2 ^ 65 by omega) (Nat.pow_le_pow_right (by decide) (by decide))
    exact (Nat.log2_lt z).mpr h1
theorem x_fdivK (k : Int) (hk : (decide (0 < k) && b64 k) = true) (ha : Ev eI ma ρ oa) : Ev eI (m2 fdivD ma (kM (.int k))) ρ (oa.bind fun x => some (x / k)) := fun z hz => by
  obtain ⟨x, h1, h2⟩ := ob_some hz; cases h2
  simp only [Bool.and_eq_true] at hk
  rw [LI.ev_m2, ha x h1]; exact if_pos ⟨of_decide_eq_true hk.1, log_lt hk.2⟩
theorem x_modP (k : Int) {mk : RM} (hk : decide (0 < k) = true) (ha : Ev eI ma ρ oa) (hm : Ev eI mk ρ (some k)) : Ev eI (m2 modD ma mk) ρ (oa.bind fun x => some (x % k)) := fun z hz => by
  obtain ⟨x, h1, h2⟩ := ob_some hz; cases h2
  rw [LI.ev_m2, ha x h1, hm k rfl]; exact if_pos (of_decide_eq_true hk)
theorem x_fdivP (k : Int) {mk : RM} (hk : (decide (0 < k) && b64 k) = true) (ha : Ev eI ma ρ oa) (hm : Ev eI mk ρ (some k)) : Ev eI (m2 fdivD ma mk) ρ (oa.bind fun x => some (x / k)) := fun z hz => by
  obtain ⟨x, h1, h2⟩ := ob_some hz; cases h2
  simp only [Bool.and_eq_true] at hk
  rw [LI.ev_m2, ha x h1, hm k rfl]; exact if_pos ⟨of_decide_eq_true hk.1, log_lt hk.2⟩
theorem x_pow (x y c : Int) (h : (decide (0 ≤ y) && decide (y ≤ 1000000) && b64 x && (x ^ y.toNat == c)) = true) : Ev eI (m2 powD (kM (.int x)) (kM (.int y))) ρ (some c) := fun z hz => by
  cases hz
  simp only [Bool.and_eq_true, beq_iff_eq] at h
  obtain ⟨⟨⟨h1, h2⟩, h3⟩, h4⟩ := h
  have := b64_in h3
  rw [LI.ev_m2, LI.ev_k, LI.ev_k, Option.bind_some, Option.bind_some, pow_int, if_pos ⟨of_decide_eq_true h1, of_decide_eq_true h2, by omega⟩, h4]; rfl
end

/-! ### comparisons -/
def ltS (x y : Ts) : Bool := decide (x.map Char.toNat < y.map Char.toNat)
theorem o2_ltI : O2 ltD eI eI eB (fun x y => some (decide (x < y))) := o2_tot fun _ _ => rfl
theorem o2_leI : O2 leD eI eI eB (fun x y => some (decide (x ≤ y))) := o2_tot fun _ _ => rfl
theorem o2_gtI : O2 gtD eI eI eB (fun x y => some (decide (y < x))) := o2_tot fun _ _ => rfl
theorem o2_geI : O2 geD eI eI eB (fun x y => some (decide (y ≤ x))) := o2_tot fun _ _ => rfl
theorem o2_ltS : O2 ltD eS eS eB (fun x y => some (ltS x y)) := o2_tot fun _ _ => rfl
theorem o2_leS : O2 leD eS eS eB (fun x y => some (!ltS y x)) := o2_tot fun _ _ => rfl
theorem o2_gtS : O2 gtD eS eS eB (fun x y => some (ltS y x)) := o2_tot fun _ _ => rfl
theorem o2_geS : O2 geD eS eS eB (fun x y => some (!ltS x y)) := o2_tot fun _ _ => rfl
theorem o2_eq {α : Type} [DecidableEq α] {a b e' : α → D} {n : Nat} [Ic a e'] [Ic b e'] [Pe e' n] (hn : n ≤ 64) : O2 eqD a b eB (fun x y => some (decide (x = y))) := o2_tot fun x y => by
  unfold eqD; rw [eqB_pe (e' := e') hn]; rfl
theorem o2_ne {α : Type} [DecidableEq α] {a b e' : α → D} {n : Nat} [Ic a e'] [Ic b e'] [Pe e' n] (hn : n ≤ 64) : O2 neD a b eB (fun x y => some (!decide (x = y))) := o2_tot fun x y => by
  unfold neD; rw [eqB_pe (e' := e') hn]; rfl
/-- any two things -/
def eqA (x y : An) : Option Bool := eqB x.d y.d
theorem o2_eqA : O2 eqD eA eA eB eqA := fun x y z h => by unfold eqA at h; simp [eqD, eA, h]; rfl
theorem o2_neA : O2 neD eA eA eB (fun x y => (eqA x y).bind fun k => some (!k)) := fun x y z h => by
  obtain ⟨k, h1, h2⟩ := ob_some h; cases h2; unfold eqA at h1; simp [neD, eA, h1]; rfl
class No {α : Type} (e : α → D) : Prop where
  no : ∀ x, isNo (e x) = some false
instance : No eI := ⟨fun _ => rfl⟩
instance : No eB := ⟨fun _ => rfl⟩
instance : No eS := ⟨fun _ => rfl⟩
instance : No eC := ⟨fun _ => rfl⟩
section
variable {α β γ δ ε ζ : Type} {a : α → D} {b : β → D} {c : γ → D} {d : δ → D} {e : ε → D} {f : ζ → D} {o : Bool}
instance : No (eL o a) := ⟨fun _ => rfl⟩
instance : No (e1 a) := ⟨fun _ => rfl⟩
instance : No (e2 a b) := ⟨fun _ => rfl⟩
instance : No (e3 a b c) := ⟨fun _ => rfl⟩
instance : No (e4 a b c d) := ⟨fun _ => rfl⟩
instance : No (e5 a b c d e) := ⟨fun _ => rfl⟩
instance : No (e6 a b c d e f) := ⟨fun _ => rfl⟩
theorem o2_isN [No a] : O2 isD (eO a) eU eB (fun x _ => some x.isNone) := o2_tot fun x y => by
  cases x with
  | none => rfl
  | some x => simp [eO, eU, isD, No.no]; rfl
theorem o2_nisN [No a] : O2 nisD (eO a) eU eB (fun x _ => some x.isSome) := o2_tot fun x y => by
  cases x with
  | none => rfl
  | some x => simp [eO, eU, nisD, No.no]; rfl
theorem o2_isU : O2 isD eU eU eB (fun _ _ => some true) := o2_tot fun _ _ => rfl
theorem o2_nisU : O2 nisD eU eU eB (fun _ _ => some false) := o2_tot fun _ _ => rfl
theorem o2_isX [No a] : O2 isD a eU eB (fun _ _ => some false) := o2_tot fun x y => by simp [eU, isD, No.no]; rfl
theorem o2_nisX [No a] : O2 nisD a eU eB (fun _ _ => some true) := o2_tot fun x y => by simp [eU, nisD, No.no]; rfl
def isNoA (x : An) : Bool := (isNo x.d).getD false
theorem isNo_ng (x : An) : isNo x.d = some (isNoA x) := by
  unfold isNoA
  have := x.ng
  cases h : x.d <;> simp [isNo] <;> rw [h] at this <;> cases this
theorem o2_isA : O2 isD eA eU eB (fun x _ => some (isNoA x)) := o2_tot fun x _ => by simp [eU, eA, isD, isNo_ng]; rfl
theorem o2_nisA : O2 nisD eA eU eB (fun x _ => some (!isNoA x)) := o2_tot fun x _ => by simp [eU, eA, nisD, isNo_ng]; rfl
theorem o2_isB : O2 isD eB eB eB (fun x y => some (decide (x = y))) := o2_tot fun x y => by cases x <;> cases y <;> rfl
theorem o2_nisB : O2 nisD eB eB eB (fun x y => some (!decide (x = y))) := o2_tot fun x y => by cases x <;> cases y <;> rfl
/-- a thing of any kind against a truth -/
def isTA (x : An) (y : Bool) : Option Bool := match x.d with | .bl k => some (decide (k = y)) | _ => none
end

/-! ### tests -/
section
variable {α : Type} {e : α → D} {m ma mb mc : RM} {ρ : List D} {o : Option α} {x y : Bool} {ta tb : BM} {oa ob : Option Bool}
theorem et_b {o : Option Bool} (h : Ev eB m ρ o) : Et (bM m) ρ o := fun z hz => by rw [ev_bM, h z hz]; rfl
theorem et_not (h : Et ta ρ oa) : Et (notB ta) ρ (oa.bind fun b => some (!b)) := fun z hz => by
  obtain ⟨x, h1, h2⟩ := ob_some hz; cases h2; rw [ev_notB, h x h1]; rfl
theorem et_and (h : Et ta ρ oa) (k : Et tb ρ ob) : Et (andB ta tb) ρ (oa.bind fun b => if b = true then ob else some false) := fun z hz => by
  obtain ⟨x, h1, h2⟩ := ob_some hz
  rw [ev_andB, h x h1, Option.bind_some]
  cases x with
  | true => rw [if_pos rfl] at h2 ⊢; exact k z h2
  | false => simpa using h2
theorem et_or (h : Et ta ρ oa) (k : Et tb ρ ob) : Et (orB ta tb) ρ (oa.bind fun b => if b = true then some true else ob) := fun z hz => by
  obtain ⟨x, h1, h2⟩ := ob_some hz
  rw [ev_orB, h x h1, Option.bind_some]
  cases x with
  | true => simpa using h2
  | false => simp at h2 ⊢; exact k z h2
theorem et_andT (h : Et ta ρ (some x)) (k : Et tb ρ (some y)) : Et (andB ta tb) ρ (some (x && y)) := fun z hz => by
  cases hz; rw [ev_andB, h x rfl, Option.bind_some]; cases x <;> simp [k y rfl]
theorem et_orT (h : Et ta ρ (some x)) (k : Et tb ρ (some y)) : Et (orB ta tb) ρ (some (x || y)) := fun z hz => by
  cases hz; rw [ev_orB, h x rfl, Option.bind_some]; cases x <;> simp [k y rfl]
theorem x_and (h : Ev eB ma ρ oa) (k : Ev eB mb ρ ob) : Ev eB (andM ma mb) ρ (oa.bind fun b => if b = true then ob else some false) := fun z hz => by
  obtain ⟨x, h1, h2⟩ := ob_some hz
  rw [ev_andM, et_b h x h1, Option.bind_some]
  cases x with
  | true => rw [if_pos rfl] at h2 ⊢; exact k z h2
  | false => simp at h2; subst h2; rfl
theorem x_or (h : Ev eB ma ρ oa) (k : Ev eB mb ρ ob) : Ev eB (orM ma mb) ρ (oa.bind fun b => if b = true then some true else ob) := fun z hz => by
  obtain ⟨x, h1, h2⟩ := ob_some hz
  rw [ev_orM, et_b h x h1, Option.bind_some]
  cases x with
  | true => simp at h2; subst h2; rfl
  | false => simp at h2 ⊢; exact k z h2
theorem x_andT (h : Ev eB ma ρ (some x)) (k : Ev eB mb ρ (some y)) : Ev eB (andM ma mb) ρ (some (x && y)) := fun z hz => by
  cases hz; rw [ev_andM, et_b h x rfl, Option.bind_some]; cases x <;> simp [k y rfl] <;> rfl
theorem x_orT (h : Ev eB ma ρ (some x)) (k : Ev eB mb ρ (some y)) : Ev eB (orM ma mb) ρ (some (x || y)) := fun z hz => by
  cases hz; rw [ev_orM, et_b h x rfl, Option.bind_some]; cases x <;> simp [k y rfl] <;> rfl
/-- truth -/
class Tr {α : Type} (e : α → D) (t : outParam (α → Option Bool)) : Prop where
  tr : ∀ x z, t x = some z → truD (e x) = some z
def truS (s : Ts) : Option Bool := if s.length ≤ LIM then some (!s.isEmpty) else none
instance : Tr eB (fun x => some x) := ⟨fun x z h => by cases h; rfl⟩
instance : Tr eU (fun _ => some false) := ⟨fun x z h => by cases h; rfl⟩
instance : Tr eI (fun x => some (x != 0)) := ⟨fun x z h => by cases h; rfl⟩
instance : Tr eS truS := ⟨fun x z h => by
  unfold truS at h; split at h
  · cases h; simp [eS, truD, *]
  · cases h⟩
instance {α : Type} {a : α → D} {o : Bool} : Tr (eL o a) (fun x => some (!x.isEmpty)) := ⟨fun x z h => by cases h; simp [eL, truD]⟩
instance : Tr eC (fun x => some (!x.isEmpty)) := ⟨fun x z h => by cases h; rfl⟩
theorem et_tru {t : α → Option Bool} [Tr e t] (h : Ev e m ρ o) : Et (truM m) ρ (o.bind t) := fun z hz => by
  obtain ⟨x, h1, h2⟩ := ob_some hz; rw [ev_tru, h x h1]; exact Tr.tr x z h2
theorem x_not {t : α → Option Bool} [Tr e t] (h : Ev e m ρ o) : Ev eB (notD m) ρ ((o.bind t).bind fun b => some (!b)) := fun z hz => by
  obtain ⟨y, h1, h2⟩ := ob_some hz; cases h2
  have := et_tru (t := t) h y h1
  rw [ev_tru] at this
  rw [ev_notD, this]; rfl
theorem x_ite {a b : Option α} (h : Et ta ρ oa) (h1 : Ev e ma ρ a) (h2 : Ev e mb ρ b) : Ev e (iteM ta ma mb) ρ (oa.bind fun k => if k = true then a else b) := fun z hz => by
  obtain ⟨x, q1, q2⟩ := ob_some hz
  rw [ev_iteM, h x q1, Option.bind_some]
  cases x with
  | true => rw [if_pos rfl] at q2 ⊢; exact h1 z q2
  | false => simp at q2 ⊢; exact h2 z q2
end
section
variable {α β γ : Type} {a : α → D} {b : β → D} {c : γ → D} {f g : D → D → Option D} {ma mb mc : RM} {ρ : List D} {oa : Option α} {ob : Option β} {oc : Option γ}
theorem x_ch {p : α → β → Option Bool} {q : β → γ → Option Bool} (hf : O2 f a b eB p) (hg : O2 g b c eB q) (ha : Ev a ma ρ oa) (hb : Ev b mb ρ ob) (hc : Ev c mc ρ oc) :
    Ev eB (chM f g ma mb mc) ρ (oa.bind fun x => ob.bind fun y => (p x y).bind fun k => if k = true then oc.bind fun z => q y z else some false) := fun z hz => by
  obtain ⟨x, h1, h2⟩ := ob_some hz
  obtain ⟨y, h3, h4⟩ := ob_some h2
  obtain ⟨k, h5, h6⟩ := ob_some h4
  rw [LI.ev_ch, ha x h1, Option.bind_some, hb y h3, Option.bind_some, hf x y k h5, Option.bind_some]
  cases k with
  | false => simp at h6; subst h6; rfl
  | true =>
    rw [if_pos rfl] at h6
    obtain ⟨u, h7, h8⟩ := ob_some h6
    show (mc ρ).bind _ = _
    rw [hc u h7, Option.bind_some, hg y u z h8]
theorem x_chT {p : α → β → Bool} {q : β → γ → Bool} {x : α} {y : β} {z : γ} (hf : O2 f a b eB (fun x y => some (p x y))) (hg : O2 g b c eB (fun x y => some (q x y))) (ha : Ev a ma ρ (some x)) (hb : Ev b mb ρ (some y)) (hc : Ev c mc ρ (some z)) :
    Ev eB (chM f g ma mb mc) ρ (some (p x y && q y z)) := fun u hu => by
  cases hu
  have := x_ch hf hg ha hb hc (p x y && q y z) (by cases h : p x y <;> simp [h])
  exact this
end

/-! ### parts -/
def ixS (s : Ts) (i : Int) : Option Ts := if s.length ≤ LIM then (atI s i).map fun c => [c] else none
theorem o2_ixL {α : Type} {a : α → D} {o : Bool} : O2 ixD (eL o a) eI a (fun xs i => atI xs i) := fun x y z h => by
  show atI (x.map a) y = _
  rw [atI_map]; simp [h]
theorem o2_ixC : O2 ixD eC eI eI (fun xs i => atI xs i) := fun x y z h => by show (atI x y).map D.int = _; simp [h]; rfl
theorem o2_ixS : O2 ixD eS eI eS ixS := fun x y z h => by
  unfold ixS at h; split at h
  · rename_i q
    cases w : atI x y with
    | none => rw [w] at h; cases h
    | some c =>
      rw [w] at h; cases h
      show (if (x.map Char.toNat).length ≤ LIM then (atI (x.map Char.toNat) y).map fun k => D.str [k] else none) = _
      rw [if_pos (by simpa using q), atI_map, w]; rfl
  · cases h
theorem x_pr {α β : Type} {e : α → D} {f : β → D} {m : RM} {ρ : List D} {o : Option α} (k : Int) (p : α → β) (hp : ∀ x, ixD (e x) (.int k) = some (f (p x))) (h : Ev e m ρ o) : Ev f (m2 ixD m (kM (.int k))) ρ (o.bind fun x => some (p x)) := fun z hz => by
  obtain ⟨x, h1, h2⟩ := ob_some hz; cases h2
  rw [LI.ev_m2, h x h1, Option.bind_some, LI.ev_k, Option.bind_some, hp]
theorem eo_no {ρ : List D} : Eo noM ρ (some none) := fun x h => by cases h; rfl
theorem eo_so {m : RM} {ρ : List D} {o : Option Int} (h : Ev eI m ρ o) : Eo (soM m) ρ (o.bind fun x => some (some x)) := fun z hz => by
  obtain ⟨x, h1, h2⟩ := ob_some hz; cases h2
  rw [ev_soM, h x h1]; rfl
def slS (lo hi : Option Int) (s : Ts) : Option Ts := if s.length ≤ LIM then some (cutL s lo hi) else none
class Sl {α : Type} {β : outParam Type} (e : α → D) (f : outParam (β → D)) (g : outParam (Option Int → Option Int → α → Option β)) : Prop where
  sl : ∀ lo hi x z, g lo hi x = some z → slD lo hi (e x) = some (f z)
instance {α : Type} {a : α → D} {o : Bool} [Fz a] : Sl (eL o a) (eL true a) (fun lo hi xs => some (cutL xs lo hi)) := ⟨fun lo hi x z h => by cases h; simp [eL, slD, Fz.fz, cutL_map]⟩
instance : Sl eC (eL true eI) (fun lo hi xs => some (cutL xs lo hi)) := ⟨fun lo hi x z h => by cases h; rfl⟩
instance : Sl eS eS slS := ⟨fun lo hi x z h => by
  unfold slS at h; split at h
  · cases h; simp [eS, slD, *, cutL_map]
  · cases h⟩
theorem x_sl {α β : Type} {e : α → D} {f : β → D} {g : Option Int → Option Int → α → Option β} [Sl e f g] {m : RM} {lo hi : OM} {ρ : List D} {o : Option α} {ol oh : Option (Option Int)} (h : Ev e m ρ o) (hl : Eo lo ρ ol) (hh : Eo hi ρ oh) :
    Ev f (slM m lo hi) ρ (o.bind fun x => ol.bind fun l => oh.bind fun h => g l h x) := fun z hz => by
  obtain ⟨x, h1, h2⟩ := ob_some hz
  obtain ⟨y, h3, h4⟩ := ob_some h2
  obtain ⟨u, h5, h6⟩ := ob_some h4
  rw [ev_slM, h x h1, Option.bind_some, hl y h3, Option.bind_some, hh u h5, Option.bind_some, Sl.sl y u x z h6]
/-- a tuple of like things -/
def eV {α : Type} (e : α → D) (xs : List α) : D := .tup (xs.map e)
instance {α : Type} {a : α → D} : Ng (eV a) := ⟨fun _ => rfl⟩
instance {α : Type} {a : α → D} : No (eV a) := ⟨fun _ => rfl⟩
instance {α : Type} {a : α → D} [Fz a] : Fz (eV a) := ⟨fun x => by simp [eV, Fz.fz]⟩
instance {α : Type} {a a' : α → D} [Ic a a'] : Ic (eV a) (eV a') := ⟨fun x => by simp [eV, Ic.ic (e := a)]⟩
instance {α : Type} {a : α → D} [Fz a] : Sl (eV a) (eV a) (fun lo hi xs => some (cutL xs lo hi)) := ⟨fun lo hi x z h => by cases h; simp [eV, slD, Fz.fz, cutL_map]⟩
theorem o2_ixV {α : Type} {a : α → D} : O2 ixD (eV a) eI a (fun xs i => atI xs i) := fun x y z h => by
  show atI (x.map a) y = _
  rw [atI_map]; simp [h]
instance {α : Type} {e : α → D} {n : Nat} [Pe e n] : Pe (eV e) (n + 1) := ⟨fun xs => .tuple (xs.map (Pe.p e)), fun xs => by simp [eV, toP, pe_toL], fun xs => by simp [PyData.canLay0, pe_lays], fun xs => by
  have := pe_deps (e := e) xs; simp [PyData.depth]; omega, fun x y => by simp [PyData.eqv, pe_eqs]⟩

/-! ### in -/
def inS (x z : Ts) : Option Bool := match x with | [c] => some (decide (c ∈ z)) | _ => none
theorem mem_toNat {c : Char} {z : Ts} : c.toNat ∈ z.map Char.toNat ↔ c ∈ z := by
  rw [List.mem_map]
  exact ⟨fun ⟨x, h1, h2⟩ => toNat_inj h2 ▸ h1, fun h => ⟨c, h, rfl⟩⟩
theorem inB_S {x z : Ts} {k : Bool} (h : inS x z = some k) : inB (eS x) (eS z) = some k := by
  unfold inS at h
  split at h
  · cases h
    show some (decide (Char.toNat _ ∈ z.map Char.toNat)) = _
    congr 1
    exact decide_eq_decide.mpr mem_toNat
  · cases h
def memT {α : Type} [DecidableEq α] (x : α) (xs : List α) : Bool := decide (x ∈ xs)
/-- x in y, told by g -/
class In {α β : Type} (a : α → D) (b : β → D) (g : outParam (α → β → Option Bool)) : Prop where
  is : ∀ x y k, g x y = some k → inB (a x) (b y) = some k
instance : In eS eS inS := ⟨fun _ _ _ h => inB_S h⟩
instance : In eS eK (fun x ss => some (memT x ss)) := ⟨fun x y k h => by
  cases h; unfold memT
  have : inB (eS x) (eK y) = some ((y.map fun s => s.map Char.toNat).any fun u => u == x.map Char.toNat) := by
    unfold eS eK
    rcases x with _ | ⟨c, _ | ⟨c2, t⟩⟩ <;> rfl
  rw [this]
  congr 1
  rw [Bool.eq_iff_iff]
  simp only [List.any_eq_true, List.mem_map, beq_iff_eq, decide_eq_true_iff]
  exact ⟨fun ⟨u, ⟨s, h1, h2⟩, h3⟩ => by rw [← h2, ts_map_inj] at h3; rw [← h3]; exact h1, fun h => ⟨_, ⟨x, h, rfl⟩, rfl⟩⟩⟩
class Ef {α : Type} (e : α → D) : Prop where
  fl : ∀ x, flatD (e x) = true
  eq : ∀ x y, eqF (e x) (e y) = true ↔ x = y
instance : Ef eI := ⟨fun _ => rfl, fun x y => by simp [eI, eqF]⟩
instance : Ef eB := ⟨fun _ => rfl, fun x y => by simp [eB, eqF]⟩
instance : Ef eS := ⟨fun _ => rfl, fun x y => by simp [eS, eqF]; exact ts_map_inj⟩
theorem in_flat {α : Type} [DecidableEq α] {e : α → D} [Ef e] (x : α) (xs : List α) : ((xs.map e).any fun y => eqF y (e x)) = decide (x ∈ xs) := by
  rw [Bool.eq_iff_iff]
  simp only [List.any_eq_true, List.mem_map, decide_eq_true_iff]
  exact ⟨fun ⟨_, ⟨y, h1, h2⟩, h3⟩ => by rw [← h2, Ef.eq] at h3; rw [← h3]; exact h1, fun h => ⟨_, ⟨x, h, rfl⟩, (Ef.eq x x).mpr rfl⟩⟩
instance {α : Type} [DecidableEq α] {e : α → D} [Ef e] {o : Bool} : In e (eL o e) (fun x xs => some (memT x xs)) := ⟨fun x y k h => by
  cases h; unfold memT
  have q : inB (e x) (eL o e y) = if flatD (e x) = true ∧ (y.map e).all flatD = true then some ((y.map e).any fun z => eqF z (e x)) else none := by
    unfold eL
    cases h : e x <;> try rfl
    rename_i s
    rcases s with _ | ⟨c, _ | ⟨c2, t⟩⟩ <;> rfl
  rw [q, if_pos ⟨Ef.fl x, by simp [Ef.fl]⟩, in_flat]⟩
instance {α : Type} [DecidableEq α] {e : α → D} [Ef e] : In e (eV e) (fun x xs => some (memT x xs)) := ⟨fun x y k h => by
  cases h; unfold memT
  have q : inB (e x) (eV e y) = if flatD (e x) = true ∧ (y.map e).all flatD = true then some ((y.map e).any fun z => eqF z (e x)) else none := by
    unfold eV
    cases h : e x <;> try rfl
    rename_i s
    rcases s with _ | ⟨c, _ | ⟨c2, t⟩⟩ <;> rfl
  rw [q, if_pos ⟨Ef.fl x, by simp [Ef.fl]⟩, in_flat]⟩
theorem o2_in {α β : Type} {a : α → D} {b : β → D} {g : α → β → Option Bool} [In a b g] : O2 inD a b eB g := fun x y z h => by
  unfold inD; rw [In.is x y z h]; rfl
theorem o2_nin {α β : Type} {a : α → D} {b : β → D} {g : α → β → Option Bool} [In a b g] : O2 ninD a b eB (fun x y => (g x y).bind fun k => some (!k)) := fun x y z h => by
  obtain ⟨k, h1, h2⟩ := ob_some h; cases h2
  unfold ninD; rw [In.is x y k h1]; rfl
theorem o2_ninT {α β : Type} {a : α → D} {b : β → D} {g : α → β → Bool} [In a b (fun x y => some (g x y))] : O2 ninD a b eB (fun x y => some (!g x y)) := o2_tot fun x y => by
  unfold ninD; rw [In.is x y _ rfl]; rfl

/-! ### built-ins -/
def lenS (s : Ts) : Option Int := if s.length ≤ LIM then some (s.length : Int) else none
theorem o1_lenL {α : Type} {a : α → D} {o : Bool} : O1 (fun d => lenD [d]) (eL o a) eI (fun xs => some (xs.length : Int)) := o1_tot fun x => by simp [eL, lenD]; rfl
theorem o1_lenV {α : Type} {a : α → D} : O1 (fun d => lenD [d]) (eV a) eI (fun xs => some (xs.length : Int)) := o1_tot fun x => by simp [eV, lenD]; rfl
theorem o1_lenC : O1 (fun d => lenD [d]) eC eI (fun xs => some (xs.length : Int)) := o1_tot fun x => rfl
theorem o1_lenS : O1 (fun d => lenD [d]) eS eI lenS := fun x z h => by
  unfold lenS at h; split at h
  · cases h; simp [eS, lenD, *]; rfl
  · cases h
theorem o1_lenK {α : Type} {a : α → D} {n : Int} (h : ∀ x, lenD [a x] = some (.int n)) : O1 (fun d => lenD [d]) a eI (fun _ => some n) := o1_tot fun x => h x
theorem o2_max : O2 (fun x y => max2D [x, y]) eI eI eI (fun x y => some (max x y)) := o2_tot fun x y => by
  show some (D.int (if y > x then y else x)) = some (D.int (max x y))
  congr 2; rw [Int.max_def]; split <;> split <;> omega
theorem o2_min : O2 (fun x y => min2D [x, y]) eI eI eI (fun x y => some (min x y)) := o2_tot fun x y => by
  show some (D.int (if y < x then y else x)) = some (D.int (min x y))
  congr 2; rw [Int.min_def]; split <;> split <;> omega
def b01 (b : Bool) : Int := if b = true then 1 else 0
theorem o1_intI : O1 (fun d => intD [d]) eI eI (fun x => some x) := o1_tot fun _ => rfl
theorem o1_intB : O1 (fun d => intD [d]) eB eI (fun x => some (b01 x)) := o1_tot fun _ => rfl
theorem o1_sum {o : Bool} : O1 (fun d => sumD [d]) (eL o eI) eI (fun xs => some xs.sum) := o1_tot fun x => by
  show (intsD (x.map D.int)).map _ = _
  rw [ints_map (f := fun i => i)]; simp; rfl
theorem o1_listL {α : Type} {a : α → D} [Fz a] {o : Bool} : O1 (fun d => listD [d]) (eL o a) (eL true a) (fun x => some x) := o1_tot fun x => by simp [eL, listD, Fz.fz]
theorem o1_listV {α : Type} {a : α → D} [Fz a] : O1 (fun d => listD [d]) (eV a) (eL true a) (fun x => some x) := o1_tot fun x => by simp [eL, eV, listD, Fz.fz]
theorem o1_listC : O1 (fun d => listD [d]) eC (eL true eI) (fun x => some x) := o1_tot fun x => rfl
def joinT (sep : Ts) : List Ts → Ts
  | [] => []
  | [s] => s
  | s :: ss => s ++ sep ++ joinT sep ss
def joinS (sep : Ts) (ss : List Ts) : Option Ts := if (ss.map List.length).sum + ss.length * sep.length ≤ LIM then some (joinT sep ss) else none
theorem strsOf_ts : ∀ ss : List Ts, strsOf (ss.map eS) = some (ss.map fun s => s.map Char.toNat)
  | [] => rfl
  | s :: ss => by show (strsOf (ss.map eS)).map _ = _; rw [strsOf_ts ss]; rfl
theorem joinT_map (sep : Ts) : ∀ ss : List Ts, TL.joinL (sep.map Char.toNat) (ss.map fun s => s.map Char.toNat) = (joinT sep ss).map Char.toNat
  | [] => rfl
  | [s] => rfl
  | s :: t :: ss => by
    have := joinT_map sep (t :: ss)
    simp only [List.map_cons] at this ⊢
    simp [TL.joinL, joinT, this]
theorem o2_join {o : Bool} : O2 joinD2 eS (eL o eS) eS joinS := fun x y z h => by
  unfold joinS at h; split at h
  · rename_i q
    cases h
    show (strsOf (y.map eS)).bind _ = _
    rw [strsOf_ts, Option.bind_some, if_pos, joinT_map]
    · rfl
    · have : (y.map fun s => s.map Char.toNat).map List.length = y.map List.length := by rw [List.map_map]; apply List.map_congr_left; intro s _; simp
      rw [this, List.length_map, List.length_map]; exact q
  · cases h
theorem x_isi {α : Type} {e : α → D} {ty : String} {m : RM} {ρ : List D} {o : Option α} (k : α → Bool) (hk : ∀ x, ((tyD (e x)).bind fun t => kitB t ty) = some (k x)) (h : Ev e m ρ o) : Ev eB (isiM ty m) ρ (o.bind fun x => some (k x)) := fun z hz => by
  obtain ⟨x, h1, h2⟩ := ob_some hz; cases h2
  have := hk x
  rw [LI.ev_isi, h x h1, Option.bind_some]
  cases w : tyD (e x) with
  | none => rw [w] at this; cases this
  | some t => rw [w, Option.bind_some] at this; rw [Option.bind_some, this]; rfl
def isiA (ty : String) (x : An) : Option Bool := (tyD x.d).bind fun t => kitB t ty
theorem x_isiA {ty : String} {m : RM} {ρ : List D} {o : Option An} (h : Ev eA m ρ o) : Ev eB (isiM ty m) ρ (o.bind fun x => isiA ty x) := fun z hz => by
  obtain ⟨x, h1, h2⟩ := ob_some hz
  unfold isiA at h2
  rw [LI.ev_isi, h x h1, Option.bind_some]
  show ((tyD x.d).bind fun t => (kitB t ty).map D.bl) = _
  cases w : tyD x.d with
  | none => rw [w] at h2; cases h2
  | some t => rw [w, Option.bind_some] at h2; rw [Option.bind_some, h2]; rfl

/-! ### lists of arguments -/
section
variable {α τ β : Type} {e e' : α → D} {et et' : τ → List D} {z : Bool} {m : RM} {ms : AM} {ρ : List D} {o : Option α} {os : Option τ}
theorem ea_nil : Ea (τ := Unit) (fun _ => []) (fun _ => []) true nilM ρ (some ()) := ⟨fun x h => by cases h; rfl, fun _ => rfl, fun _ _ => rfl⟩
theorem ea_cons [Ic e e'] [Fz e] (h : Ev e m ρ o) (hs : Ea et et' z ms ρ os) : Ea (fun t : α × τ => e t.1 :: et t.2) (fun t => e' t.1 :: et' t.2) z (consM m ms) ρ (o.bind fun x => os.bind fun xs => some (x, xs)) :=
  ⟨fun x hx => by
    obtain ⟨y, h1, h2⟩ := ob_some hx
    obtain ⟨ys, h3, h4⟩ := ob_some h2
    cases h4
    rw [LI.ev_cons, h y h1, Option.bind_some, hs.run ys h3]; rfl, fun x => by rw [iceL_cons, Ic.ic (e := e), hs.ic], fun hz x => by rw [fzL_cons, Fz.fz, hs.fz hz]; rfl⟩
theorem ea_consW [Ic e e'] (h : Ev e m ρ o) (hs : Ea et et' z ms ρ os) : Ea (fun t : α × τ => e t.1 :: et t.2) (fun t => e' t.1 :: et' t.2) false (consM m ms) ρ (o.bind fun x => os.bind fun xs => some (x, xs)) :=
  ⟨fun x hx => by
    obtain ⟨y, h1, h2⟩ := ob_some hx
    obtain ⟨ys, h3, h4⟩ := ob_some h2
    cases h4
    rw [LI.ev_cons, h y h1, Option.bind_some, hs.run ys h3]; rfl, fun x => by rw [iceL_cons, Ic.ic (e := e), hs.ic], fun hz => by cases hz⟩
theorem x_tup {f : β → D} (k : τ → β) (hs : Ea et et' true ms ρ os) (hk : ∀ t, f (k t) = .tup (et t)) (hl : ∀ t, (et t).length ≤ LIM) : Ev f (tupM ms) ρ (os.bind fun t => some (k t)) := fun x hx => by
  obtain ⟨t, h1, h2⟩ := ob_some hx; cases h2
  rw [LI.ev_tup, hs.run t h1, Option.bind_some, if_pos ⟨hs.fz rfl t, hl t⟩, hk]
theorem x_lst {f : β → D} (k : τ → β) (hs : Ea et et' true ms ρ os) (hk : ∀ t, f (k t) = .lst true (et t)) (hl : ∀ t, (et t).length ≤ LIM) : Ev f (lstM ms) ρ (os.bind fun t => some (k t)) := fun x hx => by
  obtain ⟨t, h1, h2⟩ := ob_some hx; cases h2
  rw [LI.ev_lst, hs.run t h1, Option.bind_some, if_pos ⟨hs.fz rfl t, hl t⟩, hk]
/-- a def's worth, lifted -/
def Tf {σ : Type} (et' : τ → List D) (er : σ → D) (F : FM) (t : τ → Option σ) : Prop := ∀ x r, t x = some r → ∃ ds', F (et' x) = some (er r, ds')
theorem x_call {σ : Type} {er : σ → D} {F : FM} {t : τ → Option σ} (hT : Tf et' er F t) (hs : Ea et et' true ms ρ os) : Ev er (callM F ms) ρ (os.bind t) := fun r hr => by
  obtain ⟨x, h1, h2⟩ := ob_some hr
  obtain ⟨ds', h3⟩ := hT x r h2
  rw [LI.ev_call, hs.run x h1, Option.bind_some, hs.ic, h3, Option.bind_some, if_pos (.inl (hs.fz rfl x))]
theorem x_callF {σ : Type} {er : σ → D} {F : FM} {t : τ → Option σ} [Fla er] (hT : Tf et' er F t) (hs : Ea et et' z ms ρ os) : Ev er (callM F ms) ρ (os.bind t) := fun r hr => by
  obtain ⟨x, h1, h2⟩ := ob_some hr
  obtain ⟨ds', h3⟩ := hT x r h2
  rw [LI.ev_call, hs.run x h1, Option.bind_some, hs.ic, h3, Option.bind_some, if_pos (.inr (Fla.fl r))]
theorem x_callV {σ : Type} {er : σ → D} {F : FM} {t : τ → Option σ} (hT : Tf et' er F t) (hs : Ea et et' z ms ρ os) : Ev er (callVM F ms) ρ (os.bind t) := fun r hr => by
  obtain ⟨x, h1, h2⟩ := ob_some hr
  obtain ⟨ds', h3⟩ := hT x r h2
  rw [LI.ev_callV, hs.run x h1, Option.bind_some, hs.ic, h3]; rfl
end

/-! ### walks -/
def rngT (n : Int) : Option (List Int) := if -(2 ^ 62) ≤ n ∧ n < 2 ^ 62 then some ((List.range n.toNat).map fun (k : Nat) => (k : Int)) else none
def rng2T (i j : Int) : Option (List Int) := if -(2 ^ 62) ≤ i ∧ i < 2 ^ 62 ∧ -(2 ^ 62) ≤ j ∧ j < 2 ^ 62 then some ((List.range (j - i).toNat).map fun (k : Nat) => i + (k : Int)) else none
def enumT {α : Type} (n : Nat) : List α → List (Int × α)
  | [] => []
  | x :: xs => ((n : Int), x) :: enumT (n + 1) xs
theorem enum_map {α : Type} (e : α → D) : ∀ (n : Nat) (xs : List α), enumFrom n (xs.map e) = (enumT n xs).map (e2 eI e)
  | _, [] => rfl
  | n, x :: xs => by rw [List.map_cons, enumFrom, enum_map e (n + 1) xs]; rfl
theorem zip_map {α β : Type} (a : α → D) (b : β → D) : ∀ (xs : List α) (ys : List β), zipD (xs.map a) (ys.map b) = (xs.zip ys).map (e2 a b)
  | [], [] => rfl
  | [], _ :: _ => rfl
  | _ :: _, [] => rfl
  | x :: xs, y :: ys => by rw [List.map_cons, List.map_cons, zipD, zip_map a b xs ys]; rfl
/-- what is walked, one thing behind another -/
class It1 {α : Type} {β : outParam Type} (e : α → D) (f : outParam (β → D)) (g : outParam (α → List β)) : Prop where
  it : ∀ x, itemsV (e x) = some ((g x).map f)
  fr : ∀ x, frz (e x) = true → itemsD (e x) = some ((g x).map f)
/-- lists alone -/
class Ls1 {α : Type} {β : outParam Type} (e : α → D) (f : outParam (β → D)) (g : outParam (α → List β)) : Prop where
  ls : ∀ x, lstD (e x) = some ((g x).map f)
def chars (s : Ts) : List Ts := s.map fun c => [c]
instance {α : Type} {a : α → D} [Fz a] {o : Bool} : It1 (eL o a) a (fun x => x) := ⟨fun x => by simp [eL, itemsV, Fz.fz], fun x h => by
  cases o with
  | true => simp [eL] at h
  | false => simp [eL, itemsD, Fz.fz]⟩
instance {α : Type} {a : α → D} [Fz a] : It1 (eV a) a (fun x => x) := ⟨fun x => by simp [eV, itemsV, itemsD, Fz.fz], fun x h => by simp [eV, itemsD, Fz.fz]⟩
instance : It1 eC eI (fun x => x) := ⟨fun x => rfl, fun x _ => rfl⟩
theorem chars_map (s : Ts) : strsD (s.map Char.toNat) = (chars s).map eS := by
  unfold strsD chars; rw [List.map_map, List.map_map]; rfl
instance : It1 eS eS chars := ⟨fun x => by show some (strsD _) = _; rw [chars_map], fun x _ => by show some (strsD _) = _; rw [chars_map]⟩
instance {α : Type} {a : α → D} [Fz a] : Ls1 (eL false a) a (fun x => x) := ⟨fun x => by simp [eL, lstD, Fz.fz]⟩
instance : Ls1 eC eI (fun x => x) := ⟨fun x => rfl⟩
section
variable {α β γ δ : Type} {e : α → D} {f : β → D} {g : α → List β} {m ma mb : RM} {ρ : List D} {o : Option α}
theorem ei_it [It1 e f g] [Fz e] (h : Ev e m ρ o) : Ei f (itM m) ρ (o.bind fun x => some (g x)) := fun z hz => by
  obtain ⟨x, h1, h2⟩ := ob_some hz; cases h2
  rw [ev_it, h x h1]; exact It1.fr x (Fz.fz x)
theorem ei_itV [It1 e f g] (h : Ev e m ρ o) : Ei f (itV m) ρ (o.bind fun x => some (g x)) := fun z hz => by
  obtain ⟨x, h1, h2⟩ := ob_some hz; cases h2
  rw [ev_itV, h x h1]; exact It1.it x
theorem ei_rng1 {o : Option Int} (h : Ev eI m ρ o) : Ei eI (rng1M m) ρ (o.bind rngT) := fun z hz => by
  obtain ⟨x, h1, h2⟩ := ob_some hz
  unfold rngT at h2; split at h2
  · rename_i q
    cases h2
    rw [ev_rng1, h x h1]
    show rng1D (.int x) = _
    show (if -(2 ^ 62) ≤ x ∧ x < 2 ^ 62 then some (upD 0 x.toNat) else none) = _
    rw [if_pos q, upD0, List.map_map]; rfl
  · cases h2
theorem ei_rng2 {oa ob : Option Int} (h : Ev eI ma ρ oa) (k : Ev eI mb ρ ob) : Ei eI (rng2M ma mb) ρ (oa.bind fun x => ob.bind fun y => rng2T x y) := fun z hz => by
  obtain ⟨x, h1, h2⟩ := ob_some hz
  obtain ⟨y, h3, h4⟩ := ob_some h2
  unfold rng2T at h4; split at h4
  · rename_i q
    cases h4
    rw [ev_rng2, h x h1, Option.bind_some, k y h3]
    show rng2D (.int x) (.int y) = _
    show (if -(2 ^ 62) ≤ x ∧ x < 2 ^ 62 ∧ -(2 ^ 62) ≤ y ∧ y < 2 ^ 62 then some (upD x (y - x).toNat) else none) = _
    rw [if_pos q, upD_eq, List.map_map]; rfl
  · cases h4
theorem ei_enum [Ls1 e f g] (h : Ev e m ρ o) : Ei (e2 eI f) (enumSM m) ρ (o.bind fun x => some (enumT 0 (g x))) := fun z hz => by
  obtain ⟨x, h1, h2⟩ := ob_some hz; cases h2
  rw [ev_enumS, h x h1, Option.bind_some]
  have := Ls1.ls (e := e) x
  cases w : e x with
  | str s => rw [w] at this; cases this
  | _ => simp only []; rw [← w, this, Option.map_some, enum_map]
theorem ei_enumS {o : Option Ts} (h : Ev eS m ρ o) : Ei (e2 eI eS) (enumSM m) ρ (o.bind fun x => some (enumT 0 (chars x))) := fun z hz => by
  obtain ⟨x, h1, h2⟩ := ob_some hz; cases h2
  rw [ev_enumS, h x h1, Option.bind_some]
  show some (enumFrom 0 (strsD (x.map Char.toNat))) = _
  rw [chars_map, enum_map]
theorem ei_zip {a : γ → D} {b : δ → D} {ga : α → List γ} {gb : β → List δ} {f : β → D} {ob : Option β} [Ls1 e a ga] [Ls1 f b gb] (h : Ev e ma ρ o) (k : Ev f mb ρ ob) : Ei (e2 a b) (zipM ma mb) ρ (o.bind fun x => ob.bind fun y => some ((ga x).zip (gb y))) := fun z hz => by
  obtain ⟨x, h1, h2⟩ := ob_some hz
  obtain ⟨y, h3, h4⟩ := ob_some h2
  cases h4
  rw [ev_zip, h x h1, Option.bind_some, k y h3, Option.bind_some, Ls1.ls x, Option.bind_some, Ls1.ls y, Option.map_some, zip_map]
theorem ei_rev [Ls1 e f g] (h : Ev e m ρ o) : Ei f (revM m) ρ (o.bind fun x => some (g x).reverse) := fun z hz => by
  obtain ⟨x, h1, h2⟩ := ob_some hz; cases h2
  rw [ev_rev, h x h1, Option.bind_some, Ls1.ls x, Option.map_some, List.map_reverse]
end
/-! ### comprehensions -/
def compG {α β : Type} (p : α → Option Bool) (g : α → Option β) : List α → Option (List β)
  | [] => some []
  | x :: xs => (p x).bind fun k => if k = true then (g x).bind fun y => (compG p g xs).bind fun ys => some (y :: ys) else compG p g xs
def compT {α β : Type} (p : α → Option Bool) (g : α → Option β) (xs : List α) : Option (List β) := if xs.length ≤ LIM then compG p g xs else none
theorem compL_T {α β : Type} {e : α → D} {f : β → D} [Fz f] {t : TgM} {mc : BM} {me : RM} {ρ0 : List D} {env : α → List D} {p : α → Option Bool} {g : α → Option β} (ht : ∀ x, t (e x) ρ0 = some (env x)) (hc : ∀ x, Et mc (env x) (p x)) (he : ∀ x, Ev f me (env x) (g x)) :
    ∀ (xs : List α) (ys : List β), compG p g xs = some ys → compL t mc me ρ0 (xs.map e) = some (ys.map f)
  | [], ys, h => by cases h; rfl
  | x :: xs, ys, h => by
    obtain ⟨k, h1, h2⟩ := ob_some h
    rw [List.map_cons, compL, ht, Option.bind_some, hc x k h1, Option.bind_some]
    cases k with
    | true =>
      rw [if_pos rfl] at h2 ⊢
      obtain ⟨y, h3, h4⟩ := ob_some h2
      obtain ⟨zs, h5, h6⟩ := ob_some h4
      cases h6
      rw [he x y h3, Option.bind_some, if_pos (Fz.fz y), compL_T ht hc he xs zs h5]; rfl
    | false =>
      simp only [if_neg Bool.false_ne_true] at h2 ⊢
      exact compL_T ht hc he xs ys h2
theorem x_comp {α β : Type} {e : α → D} {f : β → D} [Fz f] {vs : List Nat} {t : TgM} {mc : BM} {me : RM} {ms : AM} {ρ : List D} {p : α → Option Bool} {g : α → Option β} {o : Option (List α)} (env : α → List D) (hi : Ei e ms ρ o) (ht : ∀ x, t (e x) (goneAt ρ vs) = some (env x)) (hc : ∀ x, Et mc (env x) (p x)) (he : ∀ x, Ev f me (env x) (g x)) :
    Ev (eL true f) (compM vs t mc me ms) ρ (o.bind fun xs => compT p g xs) := fun ys hy => by
  obtain ⟨xs, h1, h2⟩ := ob_some hy
  unfold compT at h2; split at h2
  · rename_i q
    rw [LI.ev_comp, hi xs h1, Option.bind_some, if_pos (by simpa using q), compL_T ht hc he xs ys h2]; rfl
  · cases h2
theorem et_yes {ρ : List D} : Et yesB ρ (some true) := fun x h => by cases h; rfl
end LI
/-! UC: statements, blocks, loops, defs, lifted. -/
namespace LI
open PySem L2

def Bk {τ : Type} (Q : Fl → List D → τ → Prop) (m : SM) (ρ : List D) (o : Option τ) : Prop := ∀ t, o = some t → ∃ fl ρ', m ρ = some (fl, ρ') ∧ Q fl ρ' t
def nxB : Fl → Bool
  | .nx => true | _ => false
def goB : Fl → Bool
  | .nx => true | .ct => true | _ => false
def rtB : Fl → Bool
  | .rt _ => true | _ => false
/-- never falls through -/
def Qn {τ : Type} (Q : Fl → List D → τ → Prop) : Fl → List D → τ → Prop := fun fl ρ t => nxB fl = false ∧ Q fl ρ t
/-- falls through -/
def Qj {σ : Type} (kl : List Nat) (env : σ → List D) : Fl → List D → σ → Prop := fun fl ρ s => nxB fl = true ∧ goneAt ρ kl = env s
/-- falls through, or not -/
def Qm {σ τ : Type} (kl : List Nat) (env : σ → List D) (Q : Fl → List D → τ → Prop) : Fl → List D → σ ⊕ τ → Prop := fun fl ρ t => match t with
  | .inl s => nxB fl = true ∧ goneAt ρ kl = env s
  | .inr t => nxB fl = false ∧ Q fl ρ t
/-- a loop's turn -/
def Ql {σ : Type} (kl : List Nat) (env : σ → List D) : Fl → List D → σ → Prop := fun fl ρ s => goB fl = true ∧ goneAt ρ kl = env s
inductive St (σ τ : Type) where
  | nx (s : σ) | bk (s : σ) | rt (t : τ)
def Qs {σ τ : Type} (kl : List Nat) (env : σ → List D) (Q : Fl → List D → τ → Prop) : Fl → List D → St σ τ → Prop := fun fl ρ t => match t with
  | .nx s => goB fl = true ∧ goneAt ρ kl = env s
  | .bk s => fl = .bk ∧ goneAt ρ kl = env s
  | .rt t => rtB fl = true ∧ Q fl ρ t
/-- a def's end -/
def Qf {τ : Type} (e : τ → D) (kp : List Bool) (mk : τ → List D) : Fl → List D → τ → Prop := fun fl ρ r => (fl = .rt (e r) ∨ (fl = .nx ∧ e r = .non)) ∧ maskL kp ρ = mk r

def seqT {σ τ : Type} (u : σ ⊕ τ) (k : σ → Option τ) : Option τ := match u with
  | .inl s => k s
  | .inr t => some t
theorem nxB_nx {fl : Fl} (h : nxB fl = true) : fl = .nx := by cases fl <;> first | rfl | cases h
section
variable {α β σ τ : Type} {Q : Fl → List D → τ → Prop} {e e' : α → D} {env : α → List D} {m r a b : SM} {g : GM} {mm : RM} {ρ : List D} {o : Option α} {oc : Option Bool} {c : BM} {k : α → Option τ}
theorem eg_f (h : Ev e mm ρ o) : Eg e (fun _ => ρ) (upF mm) ρ o := fun x hx => by rw [ev_upF, h x hx]; rfl
theorem eg_r [Fz e] (h : Ev e mm ρ o) : Eg e (fun _ => ρ) (upR mm) ρ o := fun x hx => by rw [ev_upR, h x hx, Option.bind_some, if_pos (Fz.fz x)]
theorem eg_map {e : α → D} {f : β → D} (k : α → β) (env' : β → List D) (hk : ∀ x, f (k x) = e x) (he : ∀ x, env' (k x) = env x) (h : Eg e env g ρ o) : Eg f env' g ρ (o.bind fun x => some (k x)) := fun y hy => by
  obtain ⟨x, h1, h2⟩ := ob_some hy; cases h2; rw [h x h1, hk, he]
theorem eg_mv {L : Lens} (e : α → D) (x : α) (ρ' : List D) (h : L.get ρ = some (e x)) (h2 : L.put ρ .gone = ρ') : Eg e (fun _ => ρ') (mvM L) ρ (some x) := fun y hy => by
  cases hy; rw [LI.ev_mv, h, Option.bind_some, h2]
theorem b_asg {f : TgM} (env2 : α → List D) (h : Eg e env g ρ o) (hf : ∀ x, f (e x) (env x) = some (env2 x)) (h2 : ∀ x, Bk Q m (env2 x) (k x)) : Bk Q (seqM (asgM f g) m) ρ (o.bind k) := fun t ht => by
  obtain ⟨x, h3, h4⟩ := ob_some ht
  obtain ⟨fl, ρ', h5, h6⟩ := h2 x t h4
  refine ⟨fl, ρ', ?_, h6⟩
  unfold seqM asgM
  rw [h x h3, Option.bind_some, hf]
  exact h5
theorem b_asgI {f : TgM} {i : Nat} (env2 : α → List D) (h : Eg e env g ρ o) (hf : ∀ x, (f (e x) (env x)).map (iceAt i) = some (env2 x)) (h2 : ∀ x, Bk Q m (env2 x) (k x)) : Bk Q (seqM (iceM i (asgM f g)) m) ρ (o.bind k) := fun t ht => by
  obtain ⟨x, h3, h4⟩ := ob_some ht
  obtain ⟨fl, ρ', h5, h6⟩ := h2 x t h4
  refine ⟨fl, ρ', ?_, h6⟩
  have := hf x
  cases w : f (e x) (env x) with
  | none => rw [w] at this; cases this
  | some ρ1 =>
    rw [w] at this
    have e2 : iceAt i ρ1 = env2 x := Option.some.inj this
    rw [← e2] at h5
    unfold seqM iceM asgM
    rw [h x h3, Option.bind_some, w]
    exact h5
theorem b_expr (h : Eg e env g ρ o) (h2 : ∀ x, Bk Q m (env x) (k x)) : Bk Q (seqM (exprM g) m) ρ (o.bind k) := fun t ht => by
  obtain ⟨x, h3, h4⟩ := ob_some ht
  obtain ⟨fl, ρ', h5, h6⟩ := h2 x t h4
  refine ⟨fl, ρ', ?_, h6⟩
  unfold seqM exprM
  rw [h x h3]
  exact h5
theorem b_ret {k : α → τ} (h : Eg e env g ρ o) (h2 : ∀ x, Q (.rt (e x)) (env x) (k x)) : Bk Q (seqM (retM g) m) ρ (o.bind fun x => some (k x)) := fun t ht => by
  obtain ⟨x, h3, h4⟩ := ob_some ht
  cases h4
  refine ⟨_, _, ?_, h2 x⟩
  unfold seqM retM
  rw [h x h3]; rfl
theorem b_retI {e : τ → D} {env : τ → List D} {o : Option τ} (h : Eg e env g ρ o) (h2 : ∀ x, Q (.rt (e x)) (env x) x) : Bk Q (seqM (retM g) m) ρ o := fun t ht => by
  refine ⟨_, _, ?_, h2 t⟩
  unfold seqM retM
  rw [h t ht]; rfl
theorem b_retN {t : τ} (h : Q (.rt .non) ρ t) : Bk Q (seqM retNM m) ρ (some t) := fun t' ht => by cases ht; exact ⟨_, _, rfl, h⟩
theorem b_nil {t : τ} (h : Q .nx ρ t) : Bk Q skipM ρ (some t) := fun t' ht => by cases ht; exact ⟨_, _, rfl, h⟩
theorem b_bk {t : τ} (h : Q .bk ρ t) : Bk Q (seqM bkM m) ρ (some t) := fun t' ht => by cases ht; exact ⟨_, _, rfl, h⟩
theorem b_ct {t : τ} (h : Q .ct ρ t) : Bk Q (seqM ctM m) ρ (some t) := fun t' ht => by cases ht; exact ⟨_, _, rfl, h⟩
theorem b_never {a : SM} : Bk Q a ρ none := fun t ht => by cases ht
theorem b_skip {o : Option τ} (h : Bk Q m ρ o) : Bk Q (seqM skipM m) ρ o := h
theorem b_kill {o : Option τ} {vs : List Nat} (h : Bk Q m (goneAt ρ vs) o) : Bk Q (killM vs m) ρ o := h
theorem b_ifT {oa ob : Option τ} (hc : Et c ρ oc) (ha : Bk (Qn Q) a ρ oa) (hr : Bk Q r ρ ob) : Bk Q (seqM (ifM c a skipM) r) ρ (oc.bind fun k => if k = true then oa else ob) := fun t ht => by
  obtain ⟨x, h1, h2⟩ := ob_some ht
  cases x with
  | true =>
    rw [if_pos rfl] at h2
    obtain ⟨fl, ρ', h3, h4, h5⟩ := ha t h2
    refine ⟨fl, ρ', ?_, h5⟩
    unfold seqM ifM
    rw [hc _ h1, Option.bind_some, if_pos rfl, h3]
    cases fl <;> first | rfl | cases h4
  | false =>
    simp at h2
    obtain ⟨fl, ρ', h3, h4⟩ := hr t h2
    refine ⟨fl, ρ', ?_, h4⟩
    unfold seqM ifM
    rw [hc _ h1, Option.bind_some, if_neg Bool.false_ne_true]
    exact h3
theorem b_if2 {oa ob : Option τ} (hc : Et c ρ oc) (ha : Bk (Qn Q) a ρ oa) (hr : Bk (Qn Q) b ρ ob) : Bk Q (seqM (ifM c a b) r) ρ (oc.bind fun k => if k = true then oa else ob) := fun t ht => by
  obtain ⟨x, h1, h2⟩ := ob_some ht
  cases x with
  | true =>
    rw [if_pos rfl] at h2
    obtain ⟨fl, ρ', h3, h4, h5⟩ := ha t h2
    refine ⟨fl, ρ', ?_, h5⟩
    unfold seqM ifM
    rw [hc _ h1, Option.bind_some, if_pos rfl, h3]
    cases fl <;> first | rfl | cases h4
  | false =>
    simp at h2
    obtain ⟨fl, ρ', h3, h4, h5⟩ := hr t h2
    refine ⟨fl, ρ', ?_, h5⟩
    unfold seqM ifM
    rw [hc _ h1, Option.bind_some, if_neg Bool.false_ne_true, h3]
    cases fl <;> first | rfl | cases h4
theorem b_join {kl : List Nat} (env : σ → List D) {oa ob : Option σ} {k : σ → Option τ} (hc : Et c ρ oc) (ha : Bk (Qj kl env) a ρ oa) (hb : Bk (Qj kl env) b ρ ob) (hr : ∀ s, Bk Q r (env s) (k s)) : Bk Q (seqM (ifM c a b) (killM kl r)) ρ (oc.bind fun x => (if x = true then oa else ob).bind k) := fun t ht => by
  obtain ⟨x, h1, h2⟩ := ob_some ht
  obtain ⟨s, h3, h4⟩ := ob_some h2
  obtain ⟨fl, ρ', h5, h6⟩ := hr s t h4
  have main : ∀ m : SM, Bk (Qj kl env) m ρ (if x = true then oa else ob) → ifM c a b ρ = m ρ → ∃ fl ρ', seqM (ifM c a b) (killM kl r) ρ = some (fl, ρ') ∧ Q fl ρ' t := fun m hm he => by
    obtain ⟨f2, ρ2, h7, h8, h9⟩ := hm s h3
    refine ⟨fl, ρ', ?_, h6⟩
    unfold seqM
    rw [he, h7, nxB_nx h8]
    show r (goneAt ρ2 kl) = _
    rw [h9]; exact h5
  cases x with
  | true => exact main a ha (if_T (hc _ h1))
  | false => exact main b hb (if_F (hc _ h1))
theorem b_mix {kl : List Nat} (env : σ → List D) {oa ob : Option (σ ⊕ τ)} {k : σ → Option τ} (hc : Et c ρ oc) (ha : Bk (Qm kl env Q) a ρ oa) (hb : Bk (Qm kl env Q) b ρ ob) (hr : ∀ s, Bk Q r (env s) (k s)) :
    Bk Q (seqM (ifM c a b) (killM kl r)) ρ (oc.bind fun x => (if x = true then oa else ob).bind fun u => seqT u k) := fun t ht => by
  obtain ⟨x, h1, h2⟩ := ob_some ht
  obtain ⟨u, h3, h4⟩ := ob_some h2
  have main : ∀ m : SM, Bk (Qm kl env Q) m ρ (if x = true then oa else ob) → ifM c a b ρ = m ρ → ∃ fl ρ', seqM (ifM c a b) (killM kl r) ρ = some (fl, ρ') ∧ Q fl ρ' t := fun m hm he => by
    obtain ⟨f2, ρ2, h7, h8⟩ := hm u h3
    cases u with
    | inl s =>
      obtain ⟨fl, ρ', h5, h6⟩ := hr s t h4
      refine ⟨fl, ρ', ?_, h6⟩
      unfold seqM
      rw [he, h7, nxB_nx h8.1]
      show r (goneAt ρ2 kl) = _
      rw [h8.2]; exact h5
    | inr t2 =>
      cases h4
      refine ⟨f2, ρ2, ?_, h8.2⟩
      unfold seqM
      rw [he, h7]
      cases f2 <;> first | rfl | cases h8.1
  cases x with
  | true => exact main a ha (if_T (hc _ h1))
  | false => exact main b hb (if_F (hc _ h1))
end

/-! ### loops -/
def foldT {σ α : Type} (g : σ → α → Option σ) : List α → σ → Option σ
  | [], s => some s
  | x :: xs, s => (g s x).bind fun s => foldT g xs s
def forT {σ α τ : Type} (g : σ → α → Option (St σ τ)) : List α → σ → Option (σ ⊕ τ)
  | [], s => some (.inl s)
  | x :: xs, s => (g s x).bind fun u => match u with
    | .nx s => forT g xs s
    | .bk s => some (.inl s)
    | .rt t => some (.inr t)
def whileT {σ : Type} (p : σ → Option Bool) (g : σ → Option σ) : Nat → σ → Option σ
  | 0, _ => none
  | n + 1, s => (p s).bind fun k => if k = true then (g s).bind fun s => whileT p g n s else some s
def whilT {σ τ : Type} (p : σ → Option Bool) (g : σ → Option (St σ τ)) : Nat → σ → Option (σ ⊕ τ)
  | 0, _ => none
  | n + 1, s => (p s).bind fun k => if k = true then (g s).bind fun u => match u with
    | .nx s => whilT p g n s
    | .bk s => some (.inl s)
    | .rt t => some (.inr t)
    else some (.inl s)
section
variable {α σ τ : Type} {Q : Fl → List D → τ → Prop} {e : α → D} {r body : SM} {ρ : List D} {oxs : Option (List α)} {c : BM} {k : σ → Option τ} {ms : AM} {f : TgM} {kl : List Nat}
theorem for_fold1 (env : σ → List D) (env1 : σ → α → List D) {g : σ → α → Option σ} (hf : ∀ s x, f (e x) (env s) = some (env1 s x)) (hb : ∀ s x, Bk (Ql kl env) body (env1 s x) (g s x)) : ∀ (xs : List α) (s s' : σ), foldT g xs s = some s' → forL f body kl (xs.map e) (env s) = some (.nx, env s')
  | [], s, s', h => by cases h; rfl
  | x :: xs, s, s', h => by
    obtain ⟨s1, h1, h2⟩ := ob_some h
    obtain ⟨fl, ρ', h3, h4, h5⟩ := hb s x s1 h1
    rw [List.map_cons]; unfold forL
    rw [hf, Option.bind_some, h3, Option.bind_some]
    have ih := for_fold1 env env1 hf hb xs s1 s' h2
    cases fl with
    | nx => simp only [h5]; exact ih
    | ct => simp only [h5]; exact ih
    | bk => cases h4
    | rt d => cases h4
theorem b_for (env : σ → List D) (s0 : σ) (env1 : σ → α → List D) {g : σ → α → Option σ} (hi : Ei e ms ρ oxs) (hρ : ρ = env s0) (hf : ∀ s x, f (e x) (env s) = some (env1 s x)) (hb : ∀ s x, Bk (Ql kl env) body (env1 s x) (g s x)) (hr : ∀ s, Bk Q r (env s) (k s)) :
    Bk Q (seqM (forM f body kl ms) r) ρ (oxs.bind fun xs => (foldT g xs s0).bind k) := fun t ht => by
  obtain ⟨xs, h1, h2⟩ := ob_some ht
  obtain ⟨s, h3, h4⟩ := ob_some h2
  obtain ⟨fl, ρ', h5, h6⟩ := hr s t h4
  refine ⟨fl, ρ', ?_, h6⟩
  unfold seqM
  rw [for_at (hi xs h1), hρ, for_fold1 env env1 hf hb xs s0 s h3]
  exact h5
theorem for_step1 (env : σ → List D) (env1 : σ → α → List D) {g : σ → α → Option (St σ τ)} (hf : ∀ s x, f (e x) (env s) = some (env1 s x)) (hb : ∀ s x, Bk (Qs kl env Q) body (env1 s x) (g s x)) : ∀ (xs : List α) (s : σ) (u : σ ⊕ τ), forT g xs s = some u →
    ∃ fl ρ', forL f body kl (xs.map e) (env s) = some (fl, ρ') ∧ match u with | .inl s => fl = .nx ∧ ρ' = env s | .inr t => rtB fl = true ∧ Q fl ρ' t
  | [], s, u, h => by cases h; exact ⟨_, _, rfl, rfl, rfl⟩
  | x :: xs, s, u, h => by
    obtain ⟨v, h1, h2⟩ := ob_some h
    obtain ⟨fl, ρ', h3, h4⟩ := hb s x v h1
    rw [List.map_cons]; unfold forL
    rw [hf, Option.bind_some, h3, Option.bind_some]
    cases v with
    | nx s1 =>
      obtain ⟨f2, ρ2, h5, h6⟩ := for_step1 env env1 hf hb xs s1 u h2
      refine ⟨f2, ρ2, ?_, h6⟩
      cases fl with
      | nx => simp only [h4.2]; exact h5
      | ct => simp only [h4.2]; exact h5
      | bk => cases h4.1
      | rt d => cases h4.1
    | bk s1 =>
      cases h2
      rw [h4.1]
      exact ⟨_, _, rfl, rfl, h4.2⟩
    | rt t =>
      cases h2
      cases fl with
      | rt d => exact ⟨_, _, rfl, h4⟩
      | _ => cases h4.1
theorem b_forR (env : σ → List D) (s0 : σ) (env1 : σ → α → List D) {g : σ → α → Option (St σ τ)} (hi : Ei e ms ρ oxs) (hρ : ρ = env s0) (hf : ∀ s x, f (e x) (env s) = some (env1 s x)) (hb : ∀ s x, Bk (Qs kl env Q) body (env1 s x) (g s x)) (hr : ∀ s, Bk Q r (env s) (k s)) :
    Bk Q (seqM (forM f body kl ms) r) ρ (oxs.bind fun xs => (forT g xs s0).bind fun u => seqT u k) := fun t ht => by
  obtain ⟨xs, h1, h2⟩ := ob_some ht
  obtain ⟨u, h3, h4⟩ := ob_some h2
  obtain ⟨f2, ρ2, h7, h8⟩ := for_step1 env env1 hf hb xs s0 u h3
  unfold seqM
  rw [for_at (hi xs h1), hρ, h7, Option.bind_some]
  cases u with
  | inl s =>
    obtain ⟨rfl, rfl⟩ := h8
    exact hr s t h4
  | inr t2 =>
    cases h4
    cases f2 with
    | rt d => exact ⟨_, _, rfl, h8.2⟩
    | _ => cases h8.1
theorem while_fold1 (env : σ → List D) {p : σ → Option Bool} {g : σ → Option σ} (hc : ∀ s, Et c (env s) (p s)) (hb : ∀ s, Bk (Ql kl env) body (env s) (g s)) : ∀ (n : Nat) (s s' : σ), whileT p g n s = some s' → whileL c body kl n (env s) = some (.nx, env s')
  | 0, s, s', h => by cases h
  | n + 1, s, s', h => by
    obtain ⟨b, h1, h2⟩ := ob_some h
    unfold whileL
    rw [hc s b h1, Option.bind_some]
    cases b with
    | false => simp at h2; rw [h2]; rfl
    | true =>
      rw [if_pos rfl] at h2 ⊢
      obtain ⟨s1, h3, h4⟩ := ob_some h2
      obtain ⟨fl, ρ', h5, h6, h7⟩ := hb s s1 h3
      rw [h5, Option.bind_some]
      have ih := while_fold1 env hc hb n s1 s' h4
      cases fl with
      | nx => simp only [h7]; exact ih
      | ct => simp only [h7]; exact ih
      | bk => cases h6
      | rt d => cases h6
theorem b_while {n : Nat} (env : σ → List D) (s0 : σ) {p : σ → Option Bool} {g : σ → Option σ} (hρ : ρ = env s0) (hc : ∀ s, Et c (env s) (p s)) (hb : ∀ s, Bk (Ql kl env) body (env s) (g s)) (hr : ∀ s, Bk Q r (env s) (k s)) :
    Bk Q (seqM (whileM n c body kl) r) ρ ((whileT p g n s0).bind k) := fun t ht => by
  obtain ⟨s, h3, h4⟩ := ob_some ht
  obtain ⟨fl, ρ', h5, h6⟩ := hr s t h4
  refine ⟨fl, ρ', ?_, h6⟩
  unfold seqM whileM
  rw [hρ, while_fold1 env hc hb n s0 s h3]
  exact h5
theorem while_step1 (env : σ → List D) {p : σ → Option Bool} {g : σ → Option (St σ τ)} (hc : ∀ s, Et c (env s) (p s)) (hb : ∀ s, Bk (Qs kl env Q) body (env s) (g s)) : ∀ (n : Nat) (s : σ) (u : σ ⊕ τ), whilT p g n s = some u →
    ∃ fl ρ', whileL c body kl n (env s) = some (fl, ρ') ∧ match u with | .inl s => fl = .nx ∧ ρ' = env s | .inr t => rtB fl = true ∧ Q fl ρ' t
  | 0, s, u, h => by cases h
  | n + 1, s, u, h => by
    obtain ⟨b, h1, h2⟩ := ob_some h
    unfold whileL
    rw [hc s b h1, Option.bind_some]
    cases b with
    | false => simp at h2; subst h2; exact ⟨_, _, rfl, rfl, rfl⟩
    | true =>
      rw [if_pos rfl] at h2 ⊢
      obtain ⟨v, h3, h4⟩ := ob_some h2
      obtain ⟨fl, ρ', h5, h6⟩ := hb s v h3
      rw [h5, Option.bind_some]
      cases v with
      | nx s1 =>
        obtain ⟨f2, ρ2, h7, h8⟩ := while_step1 env hc hb n s1 u h4
        refine ⟨f2, ρ2, ?_, h8⟩
        cases fl with
        | nx => simp only [h6.2]; exact h7
        | ct => simp only [h6.2]; exact h7
        | bk => cases h6.1
        | rt d => cases h6.1
      | bk s1 =>
        cases h4
        rw [h6.1]
        exact ⟨_, _, rfl, rfl, h6.2⟩
      | rt t =>
        cases h4
        cases fl with
        | rt d => exact ⟨_, _, rfl, h6⟩
        | _ => cases h6.1
theorem b_whileR {n : Nat} (env : σ → List D) (s0 : σ) {p : σ → Option Bool} {g : σ → Option (St σ τ)} (hρ : ρ = env s0) (hc : ∀ s, Et c (env s) (p s)) (hb : ∀ s, Bk (Qs kl env Q) body (env s) (g s)) (hr : ∀ s, Bk Q r (env s) (k s)) :
    Bk Q (seqM (whileM n c body kl) r) ρ ((whilT p g n s0).bind fun u => seqT u k) := fun t ht => by
  obtain ⟨u, h3, h4⟩ := ob_some ht
  obtain ⟨f2, ρ2, h7, h8⟩ := while_step1 env hc hb n s0 u h3
  unfold seqM whileM
  rw [hρ, h7, Option.bind_some]
  cases u with
  | inl s =>
    obtain ⟨rfl, rfl⟩ := h8
    exact hr s t h4
  | inr t2 =>
    cases h4
    cases f2 with
    | rt d => exact ⟨_, _, rfl, h8.2⟩
    | _ => cases h8.1
end

/-! ### defs -/
theorem run_T {τ : Type} {e : τ → D} {n : Nat} {kp : List Bool} {m : SM} {ds : List D} {mk : τ → List D} {o : Option τ} {r : τ} (hl : (ds.length == kp.length) = true) (hb : Bk (Qf e kp mk) m (ds ++ List.replicate (n - ds.length) .gone) o) (h : o = some r) : runM n kp m ds = some (e r, mk r) := by
  obtain ⟨fl, ρ', h1, h2, h3⟩ := hb r h
  unfold runM
  rw [if_pos (by simpa using hl), h1, Option.bind_some]
  rcases h2 with rfl | ⟨rfl, h2⟩
  · rw [← h3]
  · rw [← h3, h2]
end LI
/-! UD: places, objects, methods, written dicts, lifted. -/
namespace LI
open PySem L2

theorem icL {α : Type} {e e' : α → D} [Ic e e'] (xs : List α) : xs.map (fun x => ice (e x)) = xs.map e' := List.map_congr_left fun x _ => Ic.ic x
theorem fzL {α : Type} {e : α → D} [Fz e] (xs : List α) : frzL (xs.map e) = true := frzL_map.mpr fun x _ => Fz.fz x
theorem eL_map {α β : Type} {e : α → D} {f : β → D} {o : Bool} (k : α → β) (h : ∀ x, f (k x) = e x) (xs : List α) : eL o f (xs.map k) = eL o e xs := by
  unfold eL; rw [List.map_map]; congr 1; exact List.map_congr_left fun x _ => h x
section
variable {α β γ τ σ : Type} {e : α → D} {env : α → List D} {m mo : RM} {ms : AM} {g : GM} {ρ : List D} {o : Option α} {L : Lens}
theorem x_iteT {ta : BM} {ma mb : RM} {k : Bool} {a b : α} (h : Et ta ρ (some k)) (h1 : Ev e ma ρ (some a)) (h2 : Ev e mb ρ (some b)) : Ev e (iteM ta ma mb) ρ (some (if k = true then a else b)) := fun z hz => by
  have := x_ite h h1 h2 z (by cases k <;> simpa using hz)
  exact this
theorem ev_get {x : α} (h : L.get ρ = some (e x)) : Ev e L.get ρ (some x) := fun y hy => by cases hy; exact h
/-! ### lists at places -/
def appT {α : Type} (xs : List α) (x : α) : Option (List α) := if xs.length < LIM then some (xs ++ [x]) else none
theorem eg_app {a : α → D} {xs : List α} {env : List α → List D} (h : L.get ρ = some (eL true a xs)) (hx : Ev a m ρ o) (hp : ∀ ys, L.put ρ (eL true a ys) = env ys) : Eg (fun _ => .non) env (appL L m) ρ (o.bind fun x => appT xs x) := fun ys hy => by
  obtain ⟨x, h1, h2⟩ := ob_some hy
  unfold appT at h2
  split at h2
  · rename_i q
    cases h2
    rw [LI.ev_app, h, Option.bind_some, hx x h1, Option.bind_some]
    show (if (xs.map a).length < LIM then _ else none) = _
    rw [if_pos (by simpa using q), ← hp]
    simp [eL]
  · cases h2
theorem eg_ext {a : β → D} {i : Nat} {xs0 : List β} {xs ys : α → List β} {o' : Bool} {env0 : α → List D} {env : α × List β → List D} [Fz a] (h0 : ρ[i]? = some (eL true a xs0)) (hg : Eg e env0 g ρ o) (he : ∀ x, e x = eL o' a (ys x)) (h1 : ∀ x, (env0 x)[i]? = some (eL true a (xs x))) (hp : ∀ p, (env0 p.1).set i (eL true a p.2) = env p) :
    Eg (fun _ => .non) env (extS i g) ρ (o.bind fun x => (catL (xs x) (ys x)).bind fun z => some (x, z)) := fun p hy => by
  obtain ⟨x, h2, h3⟩ := ob_some hy
  obtain ⟨z, h4, h5⟩ := ob_some h3
  cases h5
  unfold catL at h4
  split at h4
  · rename_i q
    cases h4
    unfold extS
    rw [h0]
    show (g ρ).bind _ = _
    rw [hg x h2, Option.bind_some]
    simp only [he, h1]
    show (if frzL ((ys x).map a) = true ∧ ((xs x).map a).length + ((ys x).map a).length ≤ LIM then _ else none) = _
    rw [if_pos ⟨fzL _, by simpa using q⟩, ← hp]
    simp [eL]
  · cases h4
theorem eg_binV {f : D → D → Option D} {i : Nat} {a0 : γ} {ec ec0 : γ → D} {x0 : α → γ} {er : β → D} {op : γ → γ → Option β} {ea : γ → D} (hf : O2 f ec ea er op) (hg : Eg e env g ρ o) (y0 : α → γ) (he : ∀ x, e x = ea (y0 x)) [Ng ec] [Ng ec0] (h0 : ρ[i]? = some (ec0 a0)) (h1 : ∀ x, (env x)[i]? = some (ec (x0 x))) :
    Eg (fun p : β × α => er p.1) (fun p => env p.2) (binVG f i g) ρ (o.bind fun x => (op (x0 x) (y0 x)).bind fun z => some (z, x)) := fun p hy => by
  obtain ⟨x, h2, h3⟩ := ob_some hy
  obtain ⟨z, h4, h5⟩ := ob_some h3
  cases h5
  rw [LI.ev_binV, LI.ev_v, h0, Option.bind_some, if_pos (Ng.ng _), Option.bind_some, hg x h2, Option.bind_some, LI.ev_v, h1, Option.bind_some, if_pos (Ng.ng _), Option.bind_some, he, hf _ _ _ h4]; rfl
/-! ### fields -/
theorem b_fld {Q : Fl → List D → τ → Prop} {r : SM} {k : α → Option τ} {n : Nat} {f : Str} (env2 : α → List D) (h : Eg e env g ρ o) (hp : ∀ x, ((L.get (env x)).bind fun self => (setFD n f (e x) self).map fun self' => L.put (env x) self') = some (env2 x)) (h2 : ∀ x, Bk Q r (env2 x) (k x)) : Bk Q (seqM (fldM n f L g) r) ρ (o.bind k) := fun t ht => by
  obtain ⟨x, h3, h4⟩ := ob_some ht
  obtain ⟨fl, ρ', h5, h6⟩ := h2 x t h4
  refine ⟨fl, ρ', ?_, h6⟩
  have := hp x
  unfold seqM fldM
  rw [h x h3, Option.bind_some]
  cases w1 : L.get (env x) with
  | none => rw [w1] at this; cases this
  | some self =>
    rw [w1, Option.bind_some] at this
    simp only [w1, Option.bind_some]
    cases w2 : setFD n f (e x) self with
    | none => rw [w2] at this; cases this
    | some s2 =>
      rw [w2] at this
      have e2 : L.put (env x) s2 = env2 x := Option.some.inj this
      rw [Option.map_some, e2]
      exact h5
/-! ### methods -/
def Tm {κ : Type} (ec : κ → D) (et : τ → List D) (er : σ → D) (slf : σ → κ) (F : FM) (t : κ → τ → Option σ) : Prop := ∀ x p r, t x p = some r → ∃ ds', F (ec x :: et p) = some (er r, ec (slf r) :: ds')
def To {κ : Type} (ec : κ → D) (et : τ → List D) (er : σ → D) (F : FM) (t : κ → τ → Option σ) : Prop := ∀ x p r, t x p = some r → ∃ ds', F (ec x :: et p) = some (er r, ec x :: ds')
def Tn {κ : Type} (n : Nat) (et : τ → List D) (ec : κ → D) (F : FM) (t : τ → Option κ) : Prop := ∀ p r, t p = some r → ∃ ds', F (.obj true n [] [] :: et p) = some (.non, ec r :: ds')
theorem eg_meth {κ : Type} {ec : κ → D} {x : κ} {et et' : τ → List D} {er : σ → D} {slf : σ → κ} {F : FM} {t : κ → τ → Option σ} {n : Nat} {nm : Str} {env : σ → List D} {os : Option τ} (hT : Tm ec et er slf F t) (hg : L.get ρ = some (ec x)) (hk : isObjK n nm (ec x) = true) (hs : Ea et et' true ms ρ os) (hp : ∀ r, L.put ρ (ec (slf r)) = env r) :
    Eg er env (methM n nm L F ms) ρ (os.bind fun p => t x p) := fun r hr => by
  obtain ⟨p, h1, h2⟩ := ob_some hr
  obtain ⟨ds', h3⟩ := hT x p r h2
  unfold methM
  rw [hg, Option.bind_some, hs.run p h1, Option.bind_some, if_pos ⟨hk, hs.fz rfl p⟩, h3, Option.bind_some]
  show some (er r, L.put ρ (ec (slf r))) = _
  rw [hp]
theorem to_tm {κ : Type} {ec : κ → D} {et : τ → List D} {er : σ → D} {F : FM} {t : κ → τ → Option σ} {n : Nat} {nm : Str} {x : κ} {et' : τ → List D} {os : Option τ} (hT : To ec et er F t) (hg : L.get ρ = some (ec x)) (hk : isObjK n nm (ec x) = true) (hs : Ea et et' true ms ρ os) (hp : L.put ρ (ec x) = ρ) :
    Eg er (fun _ => ρ) (methM n nm L F ms) ρ (os.bind fun p => t x p) := fun r hr => by
  obtain ⟨p, h1, h2⟩ := ob_some hr
  obtain ⟨ds', h3⟩ := hT x p r h2
  unfold methM
  rw [hg, Option.bind_some, hs.run p h1, Option.bind_some, if_pos ⟨hk, hs.fz rfl p⟩, h3, Option.bind_some]
  show some (er r, L.put ρ (ec x)) = _
  rw [hp]
theorem x_look {κ : Type} {ec ec' : κ → D} {et et' : τ → List D} {er : σ → D} {F : FM} {t : κ → τ → Option σ} {n : Nat} {nm : Str} {os : Option τ} {ok : Option κ} [Fz ec] [Ic ec ec'] (hk : ∀ x, isObjK n nm (ec x) = true) (hT : To ec' et' er F t) (ho : Ev ec mo ρ ok) (hs : Ea et et' true ms ρ os) :
    Ev er (lookM n nm mo F ms) ρ (ok.bind fun x => os.bind fun p => t x p) := fun r hr => by
  obtain ⟨x, h1, h2⟩ := ob_some hr
  obtain ⟨p, h3, h4⟩ := ob_some h2
  obtain ⟨ds', h5⟩ := hT x p r h4
  unfold lookM
  rw [ho x h1, Option.bind_some, hs.run p h3, Option.bind_some, if_pos (hk x), iceL_cons, Ic.ic (e := ec), hs.ic, h5, Option.bind_some, if_pos (.inl (by rw [fzL_cons, Fz.fz, hs.fz rfl]; rfl))]
theorem x_lookF {κ : Type} {ec ec' : κ → D} {et et' : τ → List D} {er : σ → D} {F : FM} {t : κ → τ → Option σ} {n : Nat} {nm : Str} {os : Option τ} {ok : Option κ} {z : Bool} [Fla er] [Ic ec ec'] (hk : ∀ x, isObjK n nm (ec x) = true) (hT : To ec' et' er F t) (ho : Ev ec mo ρ ok) (hs : Ea et et' z ms ρ os) :
    Ev er (lookM n nm mo F ms) ρ (ok.bind fun x => os.bind fun p => t x p) := fun r hr => by
  obtain ⟨x, h1, h2⟩ := ob_some hr
  obtain ⟨p, h3, h4⟩ := ob_some h2
  obtain ⟨ds', h5⟩ := hT x p r h4
  unfold lookM
  rw [ho x h1, Option.bind_some, hs.run p h3, Option.bind_some, if_pos (hk x), iceL_cons, Ic.ic (e := ec), hs.ic, h5, Option.bind_some, if_pos (.inr (Fla.fl r))]
theorem x_mk {κ : Type} {ec : κ → D} {et et' : τ → List D} {F : FM} {t : τ → Option κ} {n : Nat} {os : Option τ} (hT : Tn n et ec F t) (hs : Ea et et' true ms ρ os) : Ev ec (mkM n F ms) ρ (os.bind t) := fun r hr => by
  obtain ⟨p, h1, h2⟩ := ob_some hr
  obtain ⟨ds', h3⟩ := hT p r h2
  unfold mkM
  rw [hs.run p h1, Option.bind_some, if_pos (hs.fz rfl p), h3, Option.bind_some]
end
/-! ### written dicts -/
def kdS : List (Ts × Ts) → Ts → Option Ts
  | [], _ => none
  | kv :: kvs, z => if kv.1 = z then some kv.2 else kdS kvs z
def kdN (kvs : List (Ts × Ts)) : List (List Nat × List Nat) := kvs.map fun kv => (kv.1.map Char.toNat, kv.2.map Char.toNat)
theorem kdN_get : ∀ (kvs : List (Ts × Ts)) (z : Ts), kdGet (kdN kvs) (z.map Char.toNat) = (kdS kvs z).map fun s => s.map Char.toNat
  | [], z => rfl
  | kv :: kvs, z => by
    show (if kv.1.map Char.toNat = z.map Char.toNat then some (kv.2.map Char.toNat) else kdGet (kdN kvs) (z.map Char.toNat)) = _
    unfold kdS
    by_cases h : kv.1 = z
    · rw [if_pos (by rw [h]), if_pos h]; rfl
    · rw [if_neg (fun q => h (ts_map_inj.mp q)), if_neg h, kdN_get kvs z]
theorem o1_ixK {kvs : List (List Nat × List Nat)} {kt : List (Ts × Ts)} (h : kvs = kdN kt) : O1 (ixK kvs) eS eS (kdS kt) := fun x z hz => by
  subst h
  show (kdGet (kdN kt) (x.map Char.toNat)).map D.str = _
  rw [kdN_get, hz]; rfl
theorem o1_inK {kvs : List (List Nat × List Nat)} {kt : List (Ts × Ts)} (h : kvs = kdN kt) : O1 (inK kvs) eS eB (fun x => some (kdS kt x).isSome) := o1_tot fun x => by
  subst h
  show some (D.bl (kdGet (kdN kt) (x.map Char.toNat)).isSome) = _
  rw [kdN_get, Option.isSome_map]; rfl
theorem o1_ninK {kvs : List (List Nat × List Nat)} {kt : List (Ts × Ts)} (h : kvs = kdN kt) : O1 (ninK kvs) eS eB (fun x => some (!(kdS kt x).isSome)) := o1_tot fun x => by
  subst h
  show some (D.bl (!(kdGet (kdN kt) (x.map Char.toNat)).isSome)) = _
  rw [kdN_get, Option.isSome_map]; rfl
/-! ### what kind a thing is of -/
class Ki {α : Type} (e : α → D) (k : outParam String) : Prop where
  ki : ∀ x, tyD (e x) = some k
instance : Ki eI "int" := ⟨fun _ => rfl⟩
instance : Ki eB "bool" := ⟨fun _ => rfl⟩
instance : Ki eS "str" := ⟨fun _ => rfl⟩
instance : Ki eU "NoneType" := ⟨fun _ => rfl⟩
instance : Ki eC "list" := ⟨fun _ => rfl⟩
section
variable {α β γ δ ε ζ : Type} {a : α → D} {b : β → D} {c : γ → D} {d : δ → D} {e : ε → D} {f : ζ → D} {o : Bool}
instance : Ki (eL o a) "list" := ⟨fun _ => rfl⟩
instance : Ki (eV a) "tuple" := ⟨fun _ => rfl⟩
instance : Ki (e1 a) "tuple" := ⟨fun _ => rfl⟩
instance : Ki (e2 a b) "tuple" := ⟨fun _ => rfl⟩
instance : Ki (e3 a b c) "tuple" := ⟨fun _ => rfl⟩
instance : Ki (e4 a b c d) "tuple" := ⟨fun _ => rfl⟩
instance : Ki (e5 a b c d e) "tuple" := ⟨fun _ => rfl⟩
instance : Ki (e6 a b c d e f) "tuple" := ⟨fun _ => rfl⟩
end
theorem x_isK {α : Type} {e : α → D} {k ty : String} {b : Bool} [Ki e k] {m : RM} {ρ : List D} {o : Option α} (hb : kitB k ty = some b) (h : Ev e m ρ o) : Ev eB (isiM ty m) ρ (o.bind fun _ => some b) :=
  x_isi (fun _ => b) (fun x => by rw [Ki.ki (e := e), Option.bind_some, hb]) h
theorem x_isO {α : Type} {e : α → D} {k ty : String} {b : Bool} [Ki e k] {m : RM} {ρ : List D} {o : Option (Option α)} (hb : kitB k ty = some b) (hn : kitB "NoneType" ty = some false) (h : Ev (eO e) m ρ o) : Ev eB (isiM ty m) ρ (o.bind fun x => some (x.isSome && b)) :=
  x_isi (fun x => x.isSome && b) (fun x => by
    cases x with
    | none => show ((tyD D.non).bind fun t => kitB t ty) = _; exact hn
    | some x => show ((tyD (e x)).bind fun t => kitB t ty) = _; rw [Ki.ki (e := e), Option.bind_some, hb]; simp) h
end LI
namespace OW
end OW
/-- a bind that changes nothing -/
theorem bind_same {α : Type} (x : Option α) : (x.bind fun y => some y) = x := Option.bind_fun_some x
/-! NC: what NA and NB tell, lifted. -/
namespace LI
open PySem L2

section
variable {α β γ κ τ σ τ1 τ2 : Type} {Q : Fl → List D → τ → Prop} {e e' : α → D} {env : α → List D} {m r : SM} {g : GM} {mm mi : RM} {ms1 ms2 : AM} {ρ : List D} {o : Option α} {k : α → Option τ} {L : Lens}
theorem ice_set {i : Nat} {x : α} {ρ2 : List D} [Ic e e'] (h : ρ[i]? = some (e x)) (h2 : ρ.set i (e' x) = ρ2) : iceAt i ρ = ρ2 := by
  unfold iceAt
  rw [h]
  show ρ.set i (ice (e x)) = ρ2
  rw [Ic.ic (e := e), h2]
theorem b_frz {i : Nat} {x : α} {ρ2 : List D} {ot : Option τ} [Ic e e'] (h : ρ[i]? = some (e x)) (h2 : ρ.set i (e' x) = ρ2) (hb : Bk Q m ρ2 ot) : Bk Q (frzM i m) ρ ot := by
  intro t ht
  unfold frzM
  rw [ice_set (e := e) h h2]
  exact hb t ht
theorem b_asgC {i : Nat} [ic : Ic e e'] (env2 : α → List D) (h : Eg e env g ρ o) (hl : ∀ x, decide (i < (env x).length) = true) (h2 : ∀ x, (env x).set i (e' x) = env2 x) (h3 : ∀ x, Bk Q m (env2 x) (k x)) : Bk Q (seqM (iceM i (asgM (nameT i) g)) m) ρ (o.bind k) :=
  b_asgI env2 h (fun x => by
    rw [ev_name, Option.map_some, ice_set (e := e) (x := x) (ρ2 := env2 x)]
    · rw [List.getElem?_set_self (of_decide_eq_true (hl x))]
    · rw [List.set_set, h2]) h3
theorem eg_clear {a : α → D} {xs : List α} {ρ2 : List D} [Fz a] (h : L.get ρ = some (eL true a xs)) (hp : L.put ρ (eL true a []) = ρ2) : Eg (fun _ : Unit => .non) (fun _ => ρ2) (clearL L) ρ (some ()) := fun _ _ => by
  unfold clearL
  rw [h, Option.bind_some]
  show (if frzL (xs.map a) = true then _ else none) = _
  rw [if_pos (fzL _), ← hp]; rfl
theorem eg_rev {a : α → D} {xs : List α} {env : List α → List D} [Fz a] (h : L.get ρ = some (eL true a xs)) (hp : ∀ ys, L.put ρ (eL true a ys) = env ys) : Eg (fun _ => .non) env (revL L) ρ (some xs.reverse) := fun z hz => by
  cases hz
  unfold revL
  rw [h, Option.bind_some]
  show (if frzL (xs.map a) = true then _ else none) = _
  rw [if_pos (fzL _), ← hp]
  simp [eL]
def popT {α : Type} (xs : List α) : Option (α × List α) := (xs[xs.length - 1]?).map fun y => (y, xs.dropLast)
theorem eg_pop {a : α → D} {xs : List α} {env : α × List α → List D} [Fz a] (h : L.get ρ = some (eL true a xs)) (hp : ∀ p, L.put ρ (eL true a p.2) = env p) : Eg (fun p : α × List α => a p.1) env (popL L) ρ (popT xs) := fun p hz => by
  unfold popT at hz
  cases e1 : xs[xs.length - 1]? with
  | none => rw [e1] at hz; cases hz
  | some y =>
    rw [e1] at hz
    cases hz
    unfold popL
    rw [h, Option.bind_some]
    show (if frzL (xs.map a) = true then ((xs.map a)[(xs.map a).length - 1]?).bind _ else none) = _
    rw [if_pos (fzL _), List.length_map, List.getElem?_map, e1, Option.map_some, Option.bind_some, ← hp]
    simp [eL]
theorem eg_extR {a : α → D} {o' : Bool} {xs : List α} {env : List α → List D} {oy : Option (List α)} [Fz a] (h : L.get ρ = some (eL true a xs)) (hy : Ev (eL o' a) mm ρ oy) (hp : ∀ ys, L.put ρ (eL true a ys) = env ys) : Eg (fun _ => .non) env (extR L mm) ρ (oy.bind fun ys => catL xs ys) := fun zs hz => by
  obtain ⟨ys, h1, h2⟩ := ob_some hz
  unfold catL at h2
  split at h2
  · rename_i q
    cases h2
    unfold extR
    rw [h, Option.bind_some, hy ys h1, Option.bind_some]
    show (if frzL (xs.map a) = true ∧ frzL (ys.map a) = true ∧ (xs.map a).length + (ys.map a).length ≤ LIM then _ else none) = _
    rw [if_pos ⟨fzL _, fzL _, by simpa using q⟩, ← hp]
    simp [eL]
  · cases h2
def setT {α : Type} (xs : List α) (i : Int) (x : α) : Option (List α) := (ixN xs.length i).map fun j => xs.set j x
theorem b_store {a : β → D} {v : α → β} {xs : α → List β} {oi : α → Option Int} {kk : α × List β → Option τ} (env2 : α × List β → List D) [Fz a] (h : Eg e env g ρ o) (hv : ∀ x, e x = a (v x)) (hg : ∀ x, L.get (env x) = some (eL true a (xs x))) (hi : ∀ x, Ev eI mi (env x) (oi x)) (hp : ∀ p, L.put (env p.1) (eL true a p.2) = env2 p) (h3 : ∀ p, Bk Q m (env2 p) (kk p)) :
    Bk Q (seqM (storeM L mi g) m) ρ (o.bind fun x => (oi x).bind fun i => (setT (xs x) i (v x)).bind fun ys => kk (x, ys)) := fun t ht => by
  obtain ⟨x, h4, h5⟩ := ob_some ht
  obtain ⟨i, h6, h7⟩ := ob_some h5
  obtain ⟨ys, h8, h9⟩ := ob_some h7
  obtain ⟨fl, ρ', k1, k2⟩ := h3 (x, ys) t h9
  refine ⟨fl, ρ', ?_, k2⟩
  unfold setT at h8
  cases ej : ixN (xs x).length i with
  | none => rw [ej] at h8; cases h8
  | some j =>
    rw [ej] at h8
    cases h8
    unfold seqM storeM
    rw [h x h4, Option.bind_some]
    dsimp only
    rw [hg, Option.bind_some, hi x i h6, Option.bind_some]
    show Option.bind (if frzL ((xs x).map a) = true ∧ frz (e x) = true then (ixN ((xs x).map a).length i).map _ else none) _ = _
    rw [if_pos ⟨fzL _, by rw [hv]; exact Fz.fz _⟩, List.length_map, ej, Option.map_some, Option.bind_some]
    dsimp only
    have := hp (x, (xs x).set j (v x))
    rw [show D.lst true (((xs x).map a).set j (e x)) = eL true a ((xs x).set j (v x)) by rw [hv]; simp [eL, List.map_set], this]
    exact k1
/-! ### things lent -/
def Tl (et1 : τ1 → List D) (ec : κ → D) (et2 : τ2 → List D) (er : σ → D) (slf : σ → κ) (F : FM) (t : τ1 → κ → τ2 → Option σ) : Prop := ∀ p x q r, t p x q = some r → ∃ ds', F (et1 p ++ ec x :: et2 q) = some (er r, ds') ∧ ds'[(et1 p).length]? = some (ec (slf r))
theorem eg_lend {ec : κ → D} {x : κ} {et1 et1' : τ1 → List D} {et2 et2' : τ2 → List D} {er : σ → D} {slf : σ → κ} {F : FM} {t : τ1 → κ → τ2 → Option σ} {env : σ → List D} {o1 : Option τ1} {o2 : Option τ2} (hT : Tl et1 ec et2 er slf F t) (hg : L.get ρ = some (ec x)) (h1 : Ea et1 et1' true ms1 ρ o1) (h2 : Ea et2 et2' true ms2 ρ o2) (hp : ∀ r, L.put ρ (ec (slf r)) = env r) :
    Eg er env (lendM F ms1 L ms2) ρ (o1.bind fun p => o2.bind fun q => t p x q) := fun r hr => by
  obtain ⟨p, h3, h4⟩ := ob_some hr
  obtain ⟨q, h5, h6⟩ := ob_some h4
  obtain ⟨ds', h7, h8⟩ := hT p x q r h6
  unfold lendM
  rw [h1.run p h3, Option.bind_some, hg, Option.bind_some, h2.run q h5, Option.bind_some, if_pos ⟨h1.fz rfl p, h2.fz rfl q⟩, h7, Option.bind_some]
  dsimp only
  rw [h8, Option.map_some, hp]
end
end LI
/-! PB: PA, lifted. -/
namespace LI
open PySem L2

/-- a test that changes things, told with what stands behind it -/
def Etg {α : Type} (env : α → List D) (c : BGM) (ρ : List D) (o : Option (Bool × α)) : Prop := ∀ z, o = some z → c ρ = some (z.1, env z.2)
section
variable {α β γ κ τ σ ζ η : Type} {Q : Fl → List D → τ → Prop} {e e1 : α → D} {env env1 : α → List D} {m r a b : SM} {g ga gb : GM} {mm : RM} {ρ : List D} {o : Option α} {c : BM} {mc md : BGM} {oc od : Option (Bool × α)} {k : α → Option τ}
theorem eg_bin2 {f : D → D → Option D} {ea : κ → D} {eb : η → D} {er : ζ → D} {op : κ → η → Option ζ} {e2 : α → β → D} {env2 : α → β → List D} {ob : α → Option β} (hf : O2 f ea eb er op) (va : α → κ) (vb : α → β → η) (ha : Eg e1 env1 ga ρ o) (hb : ∀ x, Eg (e2 x) (env2 x) gb (env1 x) (ob x)) (h1 : ∀ x, e1 x = ea (va x)) (h2 : ∀ x y, e2 x y = eb (vb x y)) :
    Eg (fun p : ζ × α × β => er p.1) (fun p => env2 p.2.1 p.2.2) (bin2G f ga gb) ρ (o.bind fun x => (ob x).bind fun y => (op (va x) (vb x y)).bind fun z => some (z, x, y)) := fun p hp => by
  obtain ⟨x, h3, h4⟩ := ob_some hp
  obtain ⟨y, h5, h6⟩ := ob_some h4
  obtain ⟨z, h7, h8⟩ := ob_some h6
  cases h8
  unfold bin2G
  rw [ha x h3, Option.bind_some]
  dsimp only
  rw [hb x y h5, Option.bind_some]
  dsimp only
  rw [h1, h2, hf _ _ _ h7]; rfl
theorem bG_at {k : Bool} {ρ' : List D} (h : g ρ = some (.bl k, ρ')) : bG g ρ = some (k, ρ') := by unfold bG; rw [h]; rfl
/-- what tells a bool, told with what stands behind it -/
theorem eg_st (b : α → Bool) (st : α → σ) (env2 : σ → List D) (h : Eg e env g ρ o) (hv : ∀ x, e x = .bl (b x)) (he : ∀ x, env x = env2 (st x)) : Eg (fun p : Bool × σ => eB p.1) (fun p => env2 p.2) g ρ (o.bind fun x => some (b x, st x)) := fun p hp => by
  obtain ⟨x, h3, h4⟩ := ob_some hp
  cases h4
  rw [h x h3, hv, he]; rfl
theorem etg_b {o : Option (Bool × σ)} {env : σ → List D} (h : Eg (fun p : Bool × σ => eB p.1) (fun p => env p.2) g ρ o) : Etg env (bG g) ρ o := fun z hz => bG_at (h z hz)
theorem etg_tru {o : Option (Bool × σ)} {env : σ → List D} (h : Eg (fun p : Bool × σ => eB p.1) (fun p => env p.2) g ρ o) : Etg env (truG g) ρ o := fun z hz => by
  unfold truG; rw [h z hz]; rfl
theorem etg_up {oc : Option Bool} {env : σ → List D} (s0 : σ) (h : Et c ρ oc) (he : env s0 = ρ) : Etg env (upB c) ρ (oc.bind fun k => some (k, s0)) := fun z hz => by
  obtain ⟨k, h1, h2⟩ := ob_some hz
  cases h2
  unfold upB; rw [h k h1, he]; rfl
theorem eg_upB {ob : Option Bool} {env : σ → List D} (s0 : σ) (h : Ev eB mm ρ ob) (he : env s0 = ρ) : Eg (fun p : Bool × σ => eB p.1) (fun p => env p.2) (upF mm) ρ (ob.bind fun k => some (k, s0)) := fun z hz => by
  obtain ⟨k, h1, h2⟩ := ob_some hz
  cases h2
  subst he
  rw [LI.ev_upF, h k h1]; rfl
theorem etg_not (h : Etg env mc ρ oc) : Etg env (notG mc) ρ (oc.bind fun r => some (!r.1, r.2)) := fun z hz => by
  obtain ⟨x, h1, h2⟩ := ob_some hz
  cases h2
  unfold notG; rw [h x h1]; rfl
theorem etg_and {od : α → Option (Bool × α)} (h : Etg env mc ρ oc) (h2 : ∀ s, Etg env md (env s) (od s)) : Etg env (andG mc md) ρ (oc.bind fun r => if r.1 = true then od r.2 else some (false, r.2)) := fun z hz => by
  obtain ⟨x, h3, h4⟩ := ob_some hz
  obtain ⟨k, s⟩ := x
  unfold andG; rw [h _ h3, Option.bind_some]
  cases k with
  | true => exact h2 s z h4
  | false => cases h4; rfl
theorem etg_or {od : α → Option (Bool × α)} (h : Etg env mc ρ oc) (h2 : ∀ s, Etg env md (env s) (od s)) : Etg env (orG mc md) ρ (oc.bind fun r => if r.1 = true then some (true, r.2) else od r.2) := fun z hz => by
  obtain ⟨x, h3, h4⟩ := ob_some hz
  obtain ⟨k, s⟩ := x
  unfold orG; rw [h _ h3, Option.bind_some]
  cases k with
  | false => exact h2 s z h4
  | true => cases h4; rfl
theorem eg_and {od : α → Option (Bool × α)} (h : Eg (fun p : Bool × α => eB p.1) (fun p => env p.2) ga ρ oc) (h2 : ∀ s, Eg (fun p : Bool × α => eB p.1) (fun p => env p.2) gb (env s) (od s)) : Eg (fun p : Bool × α => eB p.1) (fun p => env p.2) (andV ga gb) ρ (oc.bind fun r => if r.1 = true then od r.2 else some (false, r.2)) := fun z hz => by
  obtain ⟨x, h3, h4⟩ := ob_some hz
  obtain ⟨k, s⟩ := x
  unfold andV; rw [bG_at (h _ h3), Option.bind_some]
  cases k with
  | true => exact h2 s z h4
  | false => cases h4; rfl
theorem eg_or {od : α → Option (Bool × α)} (h : Eg (fun p : Bool × α => eB p.1) (fun p => env p.2) ga ρ oc) (h2 : ∀ s, Eg (fun p : Bool × α => eB p.1) (fun p => env p.2) gb (env s) (od s)) : Eg (fun p : Bool × α => eB p.1) (fun p => env p.2) (orV ga gb) ρ (oc.bind fun r => if r.1 = true then some (true, r.2) else od r.2) := fun z hz => by
  obtain ⟨x, h3, h4⟩ := ob_some hz
  obtain ⟨k, s⟩ := x
  unfold orV; rw [bG_at (h _ h3), Option.bind_some]
  cases k with
  | false => exact h2 s z h4
  | true => cases h4; rfl
/-! ### if, with changes in the test -/
theorem ifG_T {mc : BGM} {ρ1 : List D} (h : mc ρ = some (true, ρ1)) : ifGM mc a b ρ = a ρ1 := by unfold ifGM; rw [h]; rfl
theorem ifG_F {mc : BGM} {ρ1 : List D} (h : mc ρ = some (false, ρ1)) : ifGM mc a b ρ = b ρ1 := by unfold ifGM; rw [h]; rfl
theorem b_ifGT {oa ob : α → Option τ} (hc : Etg env mc ρ oc) (ha : ∀ s, Bk (Qn Q) a (env s) (oa s)) (hr : ∀ s, Bk Q r (env s) (ob s)) : Bk Q (seqM (ifGM mc a skipM) r) ρ (oc.bind fun k => if k.1 = true then oa k.2 else ob k.2) := fun t ht => by
  obtain ⟨x, h1, h2⟩ := ob_some ht
  obtain ⟨k, s⟩ := x
  cases k with
  | true =>
    obtain ⟨fl, ρ', h3, h4, h5⟩ := ha s t h2
    refine ⟨fl, ρ', ?_, h5⟩
    unfold seqM
    rw [ifG_T (hc _ h1), h3]
    cases fl <;> first | rfl | cases h4
  | false =>
    obtain ⟨fl, ρ', h3, h4⟩ := hr s t h2
    refine ⟨fl, ρ', ?_, h4⟩
    unfold seqM
    rw [ifG_F (hc _ h1)]
    exact h3
theorem b_ifG2 {oa ob : α → Option τ} (hc : Etg env mc ρ oc) (ha : ∀ s, Bk (Qn Q) a (env s) (oa s)) (hr : ∀ s, Bk (Qn Q) b (env s) (ob s)) : Bk Q (seqM (ifGM mc a b) r) ρ (oc.bind fun k => if k.1 = true then oa k.2 else ob k.2) := fun t ht => by
  obtain ⟨x, h1, h2⟩ := ob_some ht
  obtain ⟨k, s⟩ := x
  cases k with
  | true =>
    obtain ⟨fl, ρ', h3, h4, h5⟩ := ha s t h2
    refine ⟨fl, ρ', ?_, h5⟩
    unfold seqM
    rw [ifG_T (hc _ h1), h3]
    cases fl <;> first | rfl | cases h4
  | false =>
    obtain ⟨fl, ρ', h3, h4, h5⟩ := hr s t h2
    refine ⟨fl, ρ', ?_, h5⟩
    unfold seqM
    rw [ifG_F (hc _ h1), h3]
    cases fl <;> first | rfl | cases h4
theorem b_joinG {kl : List Nat} {env1 : β → List D} (env : σ → List D) {oc : Option (Bool × β)} {oa ob : β → Option σ} {k : σ → Option τ} (hc : Etg env1 mc ρ oc) (ha : ∀ s, Bk (Qj kl env) a (env1 s) (oa s)) (hb : ∀ s, Bk (Qj kl env) b (env1 s) (ob s)) (hr : ∀ s, Bk Q r (env s) (k s)) : Bk Q (seqM (ifGM mc a b) (killM kl r)) ρ (oc.bind fun x => (if x.1 = true then oa x.2 else ob x.2).bind k) := fun t ht => by
  obtain ⟨x, h1, h2⟩ := ob_some ht
  obtain ⟨x, y⟩ := x
  obtain ⟨s, h3, h4⟩ := ob_some h2
  obtain ⟨fl, ρ', h5, h6⟩ := hr s t h4
  have main : ∀ m : SM, Bk (Qj kl env) m (env1 y) (if x = true then oa y else ob y) → ifGM mc a b ρ = m (env1 y) → ∃ fl ρ', seqM (ifGM mc a b) (killM kl r) ρ = some (fl, ρ') ∧ Q fl ρ' t := fun m hm he => by
    obtain ⟨f2, ρ2, h7, h8, h9⟩ := hm s h3
    refine ⟨fl, ρ', ?_, h6⟩
    unfold seqM
    rw [he, h7, nxB_nx h8]
    show r (goneAt ρ2 kl) = _
    rw [h9]; exact h5
  cases x with
  | true => exact main a (ha y) (ifG_T (hc _ h1))
  | false => exact main b (hb y) (ifG_F (hc _ h1))
theorem b_mixG {kl : List Nat} {env1 : β → List D} (env : σ → List D) {oc : Option (Bool × β)} {oa ob : β → Option (σ ⊕ τ)} {k : σ → Option τ} (hc : Etg env1 mc ρ oc) (ha : ∀ s, Bk (Qm kl env Q) a (env1 s) (oa s)) (hb : ∀ s, Bk (Qm kl env Q) b (env1 s) (ob s)) (hr : ∀ s, Bk Q r (env s) (k s)) :
    Bk Q (seqM (ifGM mc a b) (killM kl r)) ρ (oc.bind fun x => (if x.1 = true then oa x.2 else ob x.2).bind fun u => seqT u k) := fun t ht => by
  obtain ⟨x, h1, h2⟩ := ob_some ht
  obtain ⟨x, y⟩ := x
  obtain ⟨u, h3, h4⟩ := ob_some h2
  have main : ∀ m : SM, Bk (Qm kl env Q) m (env1 y) (if x = true then oa y else ob y) → ifGM mc a b ρ = m (env1 y) → ∃ fl ρ', seqM (ifGM mc a b) (killM kl r) ρ = some (fl, ρ') ∧ Q fl ρ' t := fun m hm he => by
    obtain ⟨f2, ρ2, h7, h8⟩ := hm u h3
    cases u with
    | inl s =>
      obtain ⟨fl, ρ', h5, h6⟩ := hr s t h4
      refine ⟨fl, ρ', ?_, h6⟩
      unfold seqM
      rw [he, h7, nxB_nx h8.1]
      show r (goneAt ρ2 kl) = _
      rw [h8.2]; exact h5
    | inr t2 =>
      cases h4
      refine ⟨f2, ρ2, ?_, h8.2⟩
      unfold seqM
      rw [he, h7]
      cases f2 <;> first | rfl | cases h8.1
  cases x with
  | true => exact main a (ha y) (ifG_T (hc _ h1))
  | false => exact main b (hb y) (ifG_F (hc _ h1))
end
end LI
/-! PD: dicts, lifted. -/
namespace LI
open PySem L2

def kS (s : Ts) : Key := .inr ⟨(s.map Char.toNat).toArray⟩
def kI (i : Int) : Key := .inl i
/-- what may be a key -/
class Ky {κ : Type} (ek : κ → D) (kk : outParam (κ → Key)) : Prop where
  ky : ∀ x, keyD (ek x) = some (kk x)
  inj : ∀ x y, kk x = kk y → x = y
instance : Ky eI kI := ⟨fun _ => rfl, fun x y h => Sum.inl.inj h⟩
instance : Ky eS kS := ⟨fun _ => rfl, fun x y h => by
  have h1 : (⟨(x.map Char.toNat).toArray⟩ : Str) = ⟨(y.map Char.toNat).toArray⟩ := Sum.inr.inj h
  have h2 : (x.map Char.toNat).toArray = (y.map Char.toNat).toArray := congrArg (fun s : Str => s.cps) h1
  exact ts_map_inj.mp (Array.toList_inj.mpr h2)⟩
/-- a dict -/
def eD {κ α : Type} (o : Bool) (kk : κ → Key) (a : α → D) (m : List (κ × α)) : D := .dK o (m.map fun p => kk p.1) (m.map fun p => a p.2)
section
variable {κ α β : Type} {o : Bool} {ek : κ → D} {kk : κ → Key} {a a' : α → D} {ρ : List D} {ma mb mc mk mv : RM} {ms mt : AM}
theorem frzL2 [Fz a] : ∀ m : List (κ × α), frzL (m.map fun p => a p.2) = true
  | [] => rfl
  | p :: m => by rw [List.map_cons]; show (frz (a p.2) && frzL _) = true; rw [Fz.fz, frzL2 m]; rfl
instance : Ng (eD o kk a) := ⟨fun _ => rfl⟩
instance [Fz a] : Fz (eD false kk a) := ⟨fun m => by
  show (!false && frzL (m.map fun p => a p.2)) = true
  rw [frzL2]; rfl⟩
instance [Ic a a'] : Ic (eD o kk a) (eD false kk a') := ⟨fun m => by
  show D.dK false _ (iceL (m.map fun p => a p.2)) = .dK false _ (m.map fun p => a' p.2)
  congr 1
  induction m with
  | nil => rfl
  | cons p m ih => simp [iceL, ih, Ic.ic (e := a)]⟩
def getT {κ α : Type} [DecidableEq κ] : List (κ × α) → κ → Option α
  | [], _ => none
  | p :: m, k => if p.1 = k then some p.2 else getT m k
theorem under_get [DecidableEq κ] [Ky ek kk] (k : κ) : ∀ m : List (κ × α), under (m.map fun p => kk p.1) (m.map fun p => a p.2) (kk k) = (getT m k).map a
  | [] => rfl
  | p :: m => by
    rw [List.map_cons, List.map_cons]
    unfold under getT
    by_cases h : p.1 = k
    · rw [if_pos h, if_pos (by rw [h])]; rfl
    · rw [if_neg h, if_neg (fun q => h (Ky.inj ek _ _ q)), under_get k m]
theorem o2_ixD [DecidableEq κ] [Ky ek kk] : O2 ixD (eD o kk a) ek a getT := fun m k z h => by
  show (keyD (ek k)).bind _ = _
  rw [Ky.ky (ek := ek) k, Option.bind_some, under_get (ek := ek), h]; rfl
def inT {κ α : Type} [DecidableEq κ] (k : κ) (m : List (κ × α)) : Bool := (getT m k).isSome
theorem x_get2 [DecidableEq κ] [Ky ek kk] {om : Option (List (κ × α))} {ok : Option κ} {oc : Option α} (h : Ev (eD o kk a) ma ρ om) (hk : Ev ek mb ρ ok) (hc : Ev a mc ρ oc) : Ev a (getM2 ma mb mc) ρ (om.bind fun m => ok.bind fun k => oc.bind fun x => some ((getT m k).getD x)) := fun z hz => by
  obtain ⟨m, h1, h2⟩ := ob_some hz
  obtain ⟨k, h3, h4⟩ := ob_some h2
  obtain ⟨x, h5, h6⟩ := ob_some h4
  cases h6
  unfold getM2
  rw [h m h1, Option.bind_some, hk k h3, Option.bind_some, hc x h5, Option.bind_some]
  show (keyD (ek k)).map _ = _
  rw [Ky.ky (ek := ek) k, Option.map_some, under_get (ek := ek)]
  cases getT m k <;> rfl
theorem x_get1 [DecidableEq κ] [Ky ek kk] {om : Option (List (κ × α))} {ok : Option κ} (h : Ev (eD o kk a) ma ρ om) (hk : Ev ek mb ρ ok) : Ev (eO a) (getM1 ma mb) ρ (om.bind fun m => ok.bind fun k => some (getT m k)) := fun z hz => by
  obtain ⟨m, h1, h2⟩ := ob_some hz
  obtain ⟨k, h3, h4⟩ := ob_some h2
  cases h4
  unfold getM1 getM2
  rw [h m h1, Option.bind_some, hk k h3, Option.bind_some]
  show (keyD (ek k)).map _ = _
  rw [Ky.ky (ek := ek) k, Option.map_some, under_get (ek := ek)]
  cases getT m k <;> rfl
/-! ### displays -/
def Edp (kk : κ → Key) (a : α → D) (ms mt : AM) (ρ : List D) (o : Option (List (κ × α))) : Prop := ∀ m, o = some m → ∃ kds, ms ρ = some kds ∧ keyDs kds = some (m.map fun p => kk p.1) ∧ mt ρ = some (m.map fun p => a p.2)
theorem edp_nil : Edp kk a nilM nilM ρ (some []) := fun m h => by cases h; exact ⟨[], rfl, rfl, rfl⟩
theorem edp_cons [Ky ek kk] {ok : Option κ} {ov : Option α} {om : Option (List (κ × α))} (hk : Ev ek mk ρ ok) (hv : Ev a mv ρ ov) (h : Edp kk a ms mt ρ om) : Edp kk a (consM mk ms) (consM mv mt) ρ (ok.bind fun k => ov.bind fun v => om.bind fun m => some ((k, v) :: m)) := fun z hz => by
  obtain ⟨k, h1, h2⟩ := ob_some hz
  obtain ⟨v, h3, h4⟩ := ob_some h2
  obtain ⟨m, h5, h6⟩ := ob_some h4
  cases h6
  obtain ⟨kds, e1, e2, e3⟩ := h m h5
  refine ⟨ek k :: kds, ?_, ?_, ?_⟩
  · unfold consM; rw [hk k h1, e1]; rfl
  · show (keyD (ek k)).bind _ = _
    rw [Ky.ky (ek := ek) k, Option.bind_some, e2]; rfl
  · unfold consM; rw [hv v h3, e3]; rfl
def dispT {κ α : Type} [DecidableEq κ] (m : List (κ × α)) : Option (List (κ × α)) := if (m.map (·.1)).Nodup ∧ m.length ≤ 15 then some m else none
theorem nodup_kk [DecidableEq κ] (ek : κ → D) [Ky ek kk] : ∀ m : List (κ × α), (m.map (·.1)).Nodup → (m.map fun p => kk p.1).Nodup
  | [], _ => List.nodup_nil
  | p :: m, h => by
    rw [List.map_cons, List.nodup_cons] at h ⊢
    refine ⟨fun q => h.1 ?_, nodup_kk ek m h.2⟩
    obtain ⟨r, hr, e⟩ := List.mem_map.mp q
    rw [← Ky.inj ek _ _ e]
    exact List.mem_map_of_mem hr
theorem x_disp [DecidableEq κ] (ek : κ → D) [Ky ek kk] [Fz a] {om : Option (List (κ × α))} (h : Edp kk a ms mt ρ om) : Ev (eD true kk a) (dispM ms mt) ρ (om.bind fun m => dispT m) := fun z hz => by
  obtain ⟨m, h1, h2⟩ := ob_some hz
  unfold dispT at h2
  split at h2
  · rename_i q
    cases h2
    obtain ⟨kds, e1, e2, e3⟩ := h z h1
    unfold dispM
    rw [e1, Option.bind_some, e3, Option.bind_some, e2, Option.bind_some, if_pos ⟨nodup_kk ek z q.1, frzL2 z, by simpa using q.2, by simp⟩]
    rfl
  · cases h2
end
end LI
namespace LI
open PySem L2
/-! ### parts of tuples -/
def slX (l h : Option Int) : D → D
  | .tup ds => .tup (cutL ds l h)
  | d => d
def isTup : D → Bool
  | .tup _ => true | _ => false
theorem x_slK {α β : Type} {e : α → D} {f : β → D} [Fz e] {m : RM} {lo hi : OM} {ρ : List D} {o : Option α} (l h : Option Int) (k : α → β) (hk : ∀ x, slX l h (e x) = f (k x)) (ht : ∀ x, isTup (e x) = true) (hm : Ev e m ρ o) (hl : lo ρ = some l) (hh : hi ρ = some h) : Ev f (slM m lo hi) ρ (o.bind fun x => some (k x)) := fun z hz => by
  obtain ⟨x, h1, h2⟩ := ob_some hz
  cases h2
  rw [ev_slM, hm x h1, Option.bind_some, hl, Option.bind_some, hh, Option.bind_some]
  have h3 := hk x
  have h4 := ht x
  have h5 : frz (e x) = true := Fz.fz x
  cases hd : e x with
  | tup ds =>
    rw [hd] at h3 h5
    show (if frzL ds = true then some (D.tup (cutL ds l h)) else none) = _
    rw [if_pos (show frzL ds = true from h5), ← h3]; rfl
  | _ => rw [hd] at h4; cases h4
end LI
/-! PF: PE, lifted. -/
namespace LI
open PySem L2
theorem b_frzP {α τ : Type} {Q : Fl → List D → τ → Prop} {e e' : α → D} {m : SM} {ρ : List D} {L : Lens} {x : α} {ρ2 : List D} {ot : Option τ} [Ic e e'] (h : L.get ρ = some (e x)) (h2 : L.put ρ (e' x) = ρ2) (hb : Bk Q m ρ2 ot) : Bk Q (frzP L m) ρ ot := fun t ht => by
  unfold frzP
  rw [h, Option.bind_some, Ic.ic (e := e), h2]
  exact hb t ht
theorem eg_cold {α : Type} {e e' : α → D} {env : α → List D} {g : GM} {ρ : List D} {o : Option α} [ic : Ic e e'] (h : Eg e env g ρ o) : Eg e' env (coldG g) ρ o := fun x hx => by
  unfold coldG
  rw [h x hx, Option.map_some, Ic.ic (e := e)]
/-! ### lists of unlike things -/
class Tu {α : Type} (e : α → D) : Prop where
  tu : ∀ x, ∃ ds, e x = .tup ds
section
variable {α β γ δ ε ζ : Type} {a : α → D} {b : β → D} {c : γ → D} {d : δ → D} {e : ε → D} {f : ζ → D}
instance : Tu (e1 a) := ⟨fun _ => ⟨_, rfl⟩⟩
instance : Tu (e2 a b) := ⟨fun _ => ⟨_, rfl⟩⟩
instance : Tu (e3 a b c) := ⟨fun _ => ⟨_, rfl⟩⟩
instance : Tu (e4 a b c d) := ⟨fun _ => ⟨_, rfl⟩⟩
instance : Tu (e5 a b c d e) := ⟨fun _ => ⟨_, rfl⟩⟩
instance : Tu (e6 a b c d e f) := ⟨fun _ => ⟨_, rfl⟩⟩
end
def asL (o : Bool) : D → D
  | .tup ds => .lst o ds
  | d => d
def eH {α : Type} (o : Bool) (e : α → D) (x : α) : D := asL o (e x)
section
variable {α : Type} {o : Bool} {e e' : α → D}
instance [Tu e] : Ng (eH o e) := ⟨fun x => by obtain ⟨ds, h⟩ := Tu.tu (e := e) x; unfold eH; rw [h]; rfl⟩
instance [Tu e] : No (eH o e) := ⟨fun x => by obtain ⟨ds, h⟩ := Tu.tu (e := e) x; unfold eH; rw [h]; rfl⟩
instance [Tu e] [Fz e] : Fz (eH false e) := ⟨fun x => by
  obtain ⟨ds, h⟩ := Tu.tu (e := e) x
  have h2 : frz (e x) = true := Fz.fz x
  unfold eH; rw [h] at h2 ⊢
  show (!false && frzL ds) = true
  rw [show frzL ds = true from h2]; rfl⟩
instance [Tu e] [Tu e'] [Ic e e'] : Ic (eH o e) (eH false e') := ⟨fun x => by
  obtain ⟨ds, h⟩ := Tu.tu (e := e) x
  obtain ⟨ds', h'⟩ := Tu.tu (e := e') x
  have h2 : ice (e x) = e' x := Ic.ic x
  unfold eH; rw [h, h'] at h2; rw [h, h']
  have h3 : D.tup (iceL ds) = .tup ds' := h2
  show D.lst false (iceL ds) = .lst false ds'
  cases h3; rfl⟩
end
/-! ### arguments that change things -/
def Eag {τ : Type} (et env : τ → List D) (ms : AGM) (ρ : List D) (o : Option τ) : Prop := ∀ t, o = some t → ms ρ = some (et t, env t) ∧ frzL (et t) = true
section
variable {α β σ τ : Type} {e : α → D} {env : α → List D} {g : GM} {ms : AGM} {ρ : List D} {o : Option α}
theorem eag_nil : Eag (fun _ : Unit => []) (fun _ => ρ) nilG ρ (some ()) := fun t _ => ⟨rfl, rfl⟩
theorem eag_cons {et2 env2 : α → β → List D} {o2 : α → Option β} (h : Eg e env g ρ o) (hz : ∀ x, frz (e x) = true) (h2 : ∀ x, Eag (et2 x) (env2 x) ms (env x) (o2 x)) : Eag (fun p : α × β => e p.1 :: et2 p.1 p.2) (fun p => env2 p.1 p.2) (consG g ms) ρ (o.bind fun x => (o2 x).bind fun y => some (x, y)) := fun t ht => by
  obtain ⟨x, h3, h4⟩ := ob_some ht
  obtain ⟨y, h5, h6⟩ := ob_some h4
  cases h6
  obtain ⟨k1, k2⟩ := h2 x y h5
  refine ⟨?_, ?_⟩
  · unfold consG
    rw [h x h3, Option.bind_some]
    show (if frz (e x) = true then _ else none) = _
    rw [if_pos (hz x), k1]; rfl
  · show (frz (e x) && frzL (et2 x y)) = true
    rw [hz, k2]; rfl
theorem eg_callG {et env : τ → List D} {et' : β → List D} {er : σ → D} {F : FM} {t : β → Option σ} {o : Option τ} (hT : Tf et' er F t) (k : τ → β) (h : Eag et env ms ρ o) (hk : ∀ x, et x = et' (k x)) : Eg (fun p : σ × τ => er p.1) (fun p => env p.2) (callG F ms) ρ (o.bind fun x => (t (k x)).bind fun r => some (r, x)) := fun p hp => by
  obtain ⟨x, h3, h4⟩ := ob_some hp
  obtain ⟨r, h5, h6⟩ := ob_some h4
  cases h6
  obtain ⟨k1, k2⟩ := h x h3
  obtain ⟨ds', h7⟩ := hT _ _ h5
  unfold callG
  rw [k1, Option.bind_some]
  show (if frzL (et x) = true then (F (et x)).map _ else none) = _
  rw [if_pos k2, hk, h7]; rfl
end
theorem eg_seqG {α β τ : Type} {ms : AGM} {ρ : List D} {et env : τ → List D} {o : Option τ} {fd : List D → D} {f : β → D} (k : τ → β) (h : Eag et env ms ρ o) (hk : ∀ x, fd (et x) = f (k x)) (hl : ∀ x, (et x).length ≤ LIM) : Eg (fun p : β × τ => f p.1) (fun p => env p.2) (seqG fd ms) ρ (o.bind fun x => some (k x, x)) := fun p hp => by
  obtain ⟨x, h3, h4⟩ := ob_some hp
  cases h4
  obtain ⟨k1, k2⟩ := h x h3
  unfold seqG
  rw [k1, Option.bind_some]
  show (if frzL (et x) = true ∧ (et x).length ≤ LIM then _ else none) = _
  rw [if_pos ⟨k2, hl x⟩, hk]
theorem unl_eq {α : Type} {o : Bool} {e : α → D} [Tu e] [Fz e] {f : List D → List D → Option (List D)} (x : α) (ρ : List D) : lstT f (eH o e x) ρ = tupT f (e x) ρ := by
  obtain ⟨ds, h⟩ := Tu.tu (e := e) x
  have h2 : frz (e x) = true := Fz.fz x
  unfold eH
  rw [h] at h2 ⊢
  show (if frzL ds = true then f ds ρ else none) = f ds ρ
  rw [if_pos (show frzL ds = true from h2)]
theorem bk_of {τ : Type} {Q : Fl → List D → τ → Prop} {m : SM} {ρ : List D} {o o' : Option τ} (h : Bk Q m ρ o) (e : ∀ t, o' = some t → o = some t) : Bk Q m ρ o' := fun t ht => h t (e t ht)
end LI
/-! PH: PG, lifted. -/
namespace LI
open PySem L2
def setI {α : Type} (xs : List α) (i : Int) (y : α) : List α := match ixN xs.length i with
  | some j => xs.set j y
  | none => xs
section
variable {α β σ τ : Type} {o : Bool} {a : α → D} {xs : List α} {ρ : List D} {L : Lens} {mi : RM} {oi : Option Int} {envs : List α → List D} {g : GM}
theorem at_ixN {i : Int} {x : α} (h : atI xs i = some x) : ∃ j, ixN xs.length i = some j ∧ xs[j]? = some x := by
  unfold atI at h
  cases e : ixN xs.length i with
  | none => rw [e] at h; cases h
  | some j => rw [e] at h; exact ⟨j, rfl, h⟩
theorem eg_ix [Ng a] {e : Int → β → D} {env : Int → β → List D} {ob : Int → α → Option β} (hL : L.get ρ = some (eL o a xs)) (hpL : ∀ ys, L.put ρ (eL o a ys) = envs ys) (hi : Ev eI mi ρ oi)
    (h : ∀ i x, atI xs i = some x → (idxL L mi).get ρ = some (a x) → (∀ y, (idxL L mi).put ρ (a y) = envs (setI xs i y)) → Eg (e i) (env i) g ρ (ob i x)) :
    Eg (fun p : Int × β => e p.1 p.2) (fun p => env p.1 p.2) g ρ (oi.bind fun i => (atI xs i).bind fun x => (ob i x).bind fun r => some (i, r)) := fun p hp => by
  obtain ⟨i, h1, h2⟩ := ob_some hp
  obtain ⟨x, h3, h4⟩ := ob_some h2
  obtain ⟨r, h5, h6⟩ := ob_some h4
  cases h6
  obtain ⟨j, k1, k2⟩ := at_ixN h3
  have hm : mi ρ = some (.int i) := hi i h1
  refine h i x h3 ?_ ?_ r h5
  · show ((L.get ρ).bind fun d => (mi ρ).bind fun i => _) = _
    rw [hL, hm]
    show ((ixN (xs.map a).length i).bind fun j => ((xs.map a)[j]?).bind fun d => if notGone d = true then some d else none) = _
    rw [List.length_map, k1, Option.bind_some, List.getElem?_map, k2]
    show (if notGone (a x) = true then some (a x) else none) = _
    rw [if_pos (Ng.ng x)]
  · intro y
    show (match L.get ρ, mi ρ with | some (.lst o ds), some (.int k) => (match ixN ds.length k with | some j => L.put ρ (.lst o (ds.set j (a y))) | none => ρ) | _, _ => ρ) = _
    rw [hL, hm]
    show (match ixN (xs.map a).length i with | some j => L.put ρ (.lst o ((xs.map a).set j (a y))) | none => ρ) = _
    unfold setI
    rw [List.length_map, k1]
    show L.put ρ (.lst o ((xs.map a).set j (a y))) = envs (xs.set j y)
    rw [← hpL]
    show _ = L.put ρ (.lst o ((xs.set j y).map a))
    rw [List.map_set]
/-! ### parts that may be owned -/
def Eao {τ : Type} (et env : τ → List D) (ms : AGM) (ρ : List D) (o : Option τ) : Prop := ∀ t, o = some t → ms ρ = some (et t, env t)
theorem eao_nil : Eao (fun _ : Unit => []) (fun _ => ρ) nilG ρ (some ()) := fun t _ => rfl
theorem eao_cons {γ : Type} {e : γ → D} {env : γ → List D} {ms : AGM} {o : Option γ} {et2 env2 : γ → β → List D} {o2 : γ → Option β} (h : Eg e env g ρ o) (h2 : ∀ x, Eao (et2 x) (env2 x) ms (env x) (o2 x)) : Eao (fun p : γ × β => e p.1 :: et2 p.1 p.2) (fun p => env2 p.1 p.2) (consO g ms) ρ (o.bind fun x => (o2 x).bind fun y => some (x, y)) := fun t ht => by
  obtain ⟨x, h3, h4⟩ := ob_some ht
  obtain ⟨y, h5, h6⟩ := ob_some h4
  cases h6
  unfold consO
  rw [h x h3, Option.bind_some]
  dsimp only
  rw [h2 x y h5]; rfl
theorem eg_lstO {ms : AGM} {et env : τ → List D} {o : Option τ} {f : β → D} (k : τ → β) (h : Eao et env ms ρ o) (hk : ∀ x, f (k x) = .lst true (et x)) (hl : ∀ x, (et x).length ≤ LIM) : Eg (fun p : β × τ => f p.1) (fun p => env p.2) (lstO ms) ρ (o.bind fun x => some (k x, x)) := fun p hp => by
  obtain ⟨x, h3, h4⟩ := ob_some hp
  cases h4
  unfold lstO
  rw [h x h3, Option.bind_some]
  show (if (et x).length ≤ LIM then _ else none) = _
  rw [if_pos (hl x)]
  dsimp only
  rw [hk]
end
end LI
/-! PJ: PI, lifted. -/
namespace LI
open PySem L2
/-- a tuple that may be a key -/
def eY {κ : Type} (kk : κ → List Key) (x : κ) : D := .key (kk x)
class KyT {κ : Type} (kk : κ → List Key) : Prop where
  inj : ∀ x y, kk x = kk y → x = y
def k2 {α β : Type} (a : α → Key) (b : β → Key) (t : α × β) : List Key := [a t.1, b t.2]
def k3 {α β γ : Type} (a : α → Key) (b : β → Key) (c : γ → Key) (t : α × β × γ) : List Key := [a t.1, b t.2.1, c t.2.2]
class Kj {α : Type} (a : α → Key) : Prop where
  inj : ∀ x y, a x = a y → x = y
instance : Kj kI := ⟨fun x y h => Sum.inl.inj h⟩
instance : Kj kS := ⟨fun x y h => Ky.inj eS x y h⟩
section
variable {α β γ κ τ : Type} {a : α → Key} {b : β → Key} {c : γ → Key} {kk : κ → List Key} {e : α → D} {e' : κ → D} {o : Bool} {ρ : List D} {m ma mb : RM} {ms : AM}
instance [Kj a] [Kj b] : KyT (k2 a b) := ⟨fun x y h => by
  unfold k2 at h
  simp only [List.cons.injEq, and_true] at h
  exact Prod.ext (Kj.inj _ _ h.1) (Kj.inj _ _ h.2)⟩
instance [Kj a] [Kj b] [Kj c] : KyT (k3 a b c) := ⟨fun x y h => by
  unfold k3 at h
  simp only [List.cons.injEq, and_true] at h
  exact Prod.ext (Kj.inj _ _ h.1) (Prod.ext (Kj.inj _ _ h.2.1) (Kj.inj _ _ h.2.2))⟩
instance : Ng (eY kk) := ⟨fun _ => rfl⟩
instance : Fz (eY kk) := ⟨fun _ => rfl⟩
instance : Ic (eY kk) (eY kk) := ⟨fun _ => rfl⟩
instance : No (eY kk) := ⟨fun _ => rfl⟩
/-- shown as a tuple -/
theorem x_wk {ok : Option κ} (hk : ∀ x, wkD (.key (kk x)) = e' x) (h : Ev (eY kk) m ρ ok) : Ev e' (wkM m) ρ ok := fun x hx => by
  unfold wkM
  rw [h x hx, Option.map_some]
  exact congrArg some (hk x)
theorem x_key {et et' : τ → List D} {os : Option τ} (k : τ → κ) (hs : Ea et et' true ms ρ os) (hk : ∀ t, keyDs (et t) = some (kk (k t))) (hl : ∀ t, (et t).length ≤ LIM) : Ev (eY kk) (keyM ms) ρ (os.bind fun t => some (k t)) := fun x hx => by
  obtain ⟨t, h1, h2⟩ := ob_some hx; cases h2
  unfold keyM
  rw [hs.run t h1, Option.bind_some, if_pos (hl t), hk]; rfl
/-- a dict with such keys -/
def eDT {κ α : Type} (o : Bool) (kk : κ → List Key) (a : α → D) (m : List (κ × α)) : D := .dT o (m.map fun p => kk p.1) (m.map fun p => a p.2)
instance {a : α → D} : Ng (eDT o kk a) := ⟨fun _ => rfl⟩
instance {a : α → D} [Fz a] : Fz (eDT false kk a) := ⟨fun m => by
  show (!false && frzL (m.map fun p => a p.2)) = true
  rw [frzL2]; rfl⟩
instance {a a' : α → D} [Ic a a'] : Ic (eDT o kk a) (eDT false kk a') := ⟨fun m => by
  show D.dT false _ (iceL (m.map fun p => a p.2)) = .dT false _ (m.map fun p => a' p.2)
  congr 1
  induction m with
  | nil => rfl
  | cons p m ih => simp [iceL, ih, Ic.ic (e := a)]⟩
theorem underT_get [DecidableEq κ] [KyT kk] (k : κ) : ∀ m : List (κ × α), under (m.map fun p => kk p.1) (m.map fun p => e p.2) (kk k) = (getT m k).map e
  | [] => rfl
  | p :: m => by
    rw [List.map_cons, List.map_cons]
    unfold under getT
    by_cases h : p.1 = k
    · rw [if_pos h, if_pos (by rw [h])]; rfl
    · rw [if_neg h, if_neg (fun q => h (KyT.inj _ _ q)), underT_get k m]
theorem o2_ixT [DecidableEq κ] [KyT kk] : O2 ixT (eDT o kk e) (eY kk) e getT := fun m k z h => by
  show under (m.map fun p => kk p.1) (m.map fun p => e p.2) (kk k) = _
  rw [underT_get, h]; rfl
def putT {κ α : Type} [DecidableEq κ] (m : List (κ × α)) (k : κ) (v : α) : List (κ × α) := if (m.any fun p => decide (p.1 = k)) = true then m.map (fun p => if p.1 = k then (p.1, v) else p) else m ++ [(k, v)]
def putC {κ α : Type} [DecidableEq κ] (m : List (κ × α)) (k : κ) (v : α) : Option (List (κ × α)) := if m.length < LIM then some (putT m k v) else none
theorem put_any {κ2 : Type} [DecidableEq κ] [DecidableEq κ2] (f : κ → κ2) (hf : ∀ x y, f x = f y → x = y) (k : κ) : ∀ m : List (κ × α), ((m.map fun p => f p.1).any fun j => decide (j = f k)) = m.any fun p => decide (p.1 = k)
  | [] => rfl
  | p :: m => by
    rw [List.map_cons, List.any_cons, List.any_cons, put_any f hf k m]
    congr 1
    by_cases h : p.1 = k
    · rw [h]; simp
    · rw [decide_eq_false h, decide_eq_false (fun q => h (hf _ _ q))]
theorem put_map {κ2 : Type} [DecidableEq κ] [DecidableEq κ2] (f : κ → κ2) (hf : ∀ x y, f x = f y → x = y) (k : κ) (v : α) : ∀ m : List (κ × α), (((m.map fun p => f p.1).zip (m.map fun p => e p.2)).map fun p => if p.1 = f k then e v else p.2) = (m.map fun p => if p.1 = k then (p.1, v) else p).map fun p => e p.2
  | [] => rfl
  | p :: m => by
    simp only [List.map_cons, List.zip_cons_cons]
    rw [put_map f hf k v m]
    congr 1
    by_cases h : p.1 = k
    · rw [if_pos h, if_pos (by rw [h])]
    · rw [if_neg h, if_neg (fun q => h (hf _ _ q))]
theorem put_eq {κ2 : Type} [DecidableEq κ] [DecidableEq κ2] (f : κ → κ2) (hf : ∀ x y, f x = f y → x = y) (k : κ) (v : α) (m : List (κ × α)) : putL (m.map fun p => f p.1) (m.map fun p => e p.2) (f k) (e v) = ((putT m k v).map (fun p => f p.1), (putT m k v).map fun p => e p.2) := by
  unfold putL putT
  rw [put_any f hf]
  split
  · rw [put_map f hf]
    congr 1
    rw [List.map_map]
    apply List.map_congr_left
    intro p _
    show f p.1 = f (if p.1 = k then (p.1, v) else p).1
    split <;> rfl
  · simp
theorem b_dputT {σ : Type} {Q : Fl → List D → τ → Prop} {ev : σ → D} {env : σ → List D} {g : GM} {o : Option σ} {L : Lens} {mi : RM} {r : SM} {av : α → D} {v : σ → α} {xs : σ → List (κ × α)} {ok : σ → Option κ} {kt : σ × List (κ × α) → Option τ} [DecidableEq κ] [KyT kk] [Fz av] (env2 : σ × List (κ × α) → List D) (h : Eg ev env g ρ o) (hv : ∀ x, ev x = av (v x)) (hg : ∀ x, L.get (env x) = some (eDT true kk av (xs x))) (hi : ∀ x, Ev (eY kk) mi (env x) (ok x)) (hp : ∀ p, L.put (env p.1) (eDT true kk av p.2) = env2 p) (h3 : ∀ p, Bk Q r (env2 p) (kt p)) :
    Bk Q (seqM (dputT L mi g) r) ρ (o.bind fun x => (ok x).bind fun k => (putC (xs x) k (v x)).bind fun ys => kt (x, ys)) := fun t ht => by
  obtain ⟨x, h4, h5⟩ := ob_some ht
  obtain ⟨k, h6, h7⟩ := ob_some h5
  obtain ⟨ys, h8, h9⟩ := ob_some h7
  obtain ⟨fl, ρ', k1, k2⟩ := h3 _ t h9
  refine ⟨fl, ρ', ?_, k2⟩
  unfold putC at h8
  split at h8
  · rename_i hl
    cases h8
    unfold seqM dputT
    rw [h x h4, Option.bind_some]
    dsimp only
    rw [hg, Option.bind_some, hi x k h6, Option.bind_some]
    show ((if frzL ((xs x).map fun p => av p.2) = true ∧ frz (ev x) = true ∧ ((xs x).map fun p => kk p.1).length < LIM then _ else none : Option (Fl × List D)).bind _) = _
    rw [if_pos ⟨frzL2 _, by rw [hv]; exact Fz.fz _, by rw [List.length_map]; exact hl⟩, Option.bind_some, hv, put_eq kk KyT.inj]
    show r (L.put (env x) (eDT true kk av (putT (xs x) k (v x)))) = _
    rw [hp (x, _)]
    exact k1
  · cases h8
theorem b_dputK {σ : Type} {Q : Fl → List D → τ → Prop} {ev : σ → D} {env : σ → List D} {g : GM} {o : Option σ} {L : Lens} {mi : RM} {r : SM} {av : α → D} {ek : κ → D} {kq : κ → Key} {v : σ → α} {xs : σ → List (κ × α)} {ok : σ → Option κ} {kt : σ × List (κ × α) → Option τ} [DecidableEq κ] [Ky ek kq] [Fz av] (env2 : σ × List (κ × α) → List D) (h : Eg ev env g ρ o) (hv : ∀ x, ev x = av (v x)) (hg : ∀ x, L.get (env x) = some (eD true kq av (xs x))) (hi : ∀ x, Ev ek mi (env x) (ok x)) (hp : ∀ p, L.put (env p.1) (eD true kq av p.2) = env2 p) (h3 : ∀ p, Bk Q r (env2 p) (kt p)) :
    Bk Q (seqM (dputK L mi g) r) ρ (o.bind fun x => (ok x).bind fun k => (putC (xs x) k (v x)).bind fun ys => kt (x, ys)) := fun t ht => by
  obtain ⟨x, h4, h5⟩ := ob_some ht
  obtain ⟨k, h6, h7⟩ := ob_some h5
  obtain ⟨ys, h8, h9⟩ := ob_some h7
  obtain ⟨fl, ρ', k1, k2⟩ := h3 _ t h9
  refine ⟨fl, ρ', ?_, k2⟩
  unfold putC at h8
  split at h8
  · rename_i hl
    cases h8
    unfold seqM dputK
    rw [h x h4, Option.bind_some]
    dsimp only
    rw [hg, Option.bind_some, hi x k h6, Option.bind_some]
    show (((keyD (ek k)).bind fun j => (if frzL ((xs x).map fun p => av p.2) = true ∧ frz (ev x) = true ∧ ((xs x).map fun p => kq p.1).length < LIM then some (Fl.nx, L.put (env x) (.dK true (putL ((xs x).map fun p => kq p.1) ((xs x).map fun p => av p.2) j (ev x)).1 (putL ((xs x).map fun p => kq p.1) ((xs x).map fun p => av p.2) j (ev x)).2)) else none : Option (Fl × List D))).bind _) = _
    rw [Ky.ky (ek := ek) k, Option.bind_some, if_pos ⟨frzL2 _, by rw [hv]; exact Fz.fz _, by rw [List.length_map]; exact hl⟩, Option.bind_some, hv, put_eq kq (Ky.inj ek)]
    show r (L.put (env x) (eD true kq av (putT (xs x) k (v x)))) = _
    rw [hp (x, _)]
    exact k1
  · cases h8
theorem x_newT {a : α → D} : Ev (eDT true kk a) newT ρ (some ([] : List (κ × α))) := fun x hx => by cases hx; rfl
end
def strT (i : Int) : Option Ts := if i.natAbs.log2 < 1920 then some (toString i).toList else none
theorem o1_str : O1 (fun d => strD [d]) eI eS strT := fun i z h => by
  unfold strT at h
  split at h
  · rename_i hl
    cases h
    show (if i.natAbs.log2 < 1920 then some (D.str ((toString i).toList.map Char.toNat)) else none) = _
    rw [if_pos hl]; rfl
  · cases h
end LI
/-! PK: tuples of texts that the top has written. -/
namespace LI
open PySem L2
structure GlT (K : PySem.W.Frag) (mg : Str → Option Value) (x : Str) (ss : List (List Nat)) : Prop where
  ex : ∃ a o its n, mg x = some (.ref a) ∧ K.lookup a = some o ∧ o.cls = .type "tuple" ∧ o.data = .seq its n ∧ its.size ≤ sizeLine ∧ Vals (ss.map fun s => V.str ⟨s.toArray⟩) its.toList
theorem repl_strs {c : LC} {P H : Hp} : ∀ ss : List (List Nat), RepL c P H (ss.map .str) (ss.map fun s => V.str ⟨s.toArray⟩) fz
  | [] => ⟨rfl, rfl⟩
  | s :: ss => ⟨_, _, fz, fz, rfl, ⟨rfl, rfl⟩, repl_strs ss, (fa_fz fz).symm⟩
section
variable {X : Cx} {cl : Nat → Addr} {E : En} {pos : Pos} {x : Str}
theorem f_glK (ss : List (List Nat)) (G : GlT X.K X.mg x ss) (hg : Gl X x := by rfl) (hd : (x == ("__debug__" : Str)) = false := by decide) : PE X (.Name x pos) (tF ⟨X.K, cl⟩ E (kM (.kst ss))) := by
  obtain ⟨a, o, its, n, h1, h2, h3, h4, h5, h6⟩ := G.ex
  exact f_gl (v := .ref a) (.kst ss) ⟨_, h1, rfl⟩ (fun _ _ _ => ⟨a, rfl, .inr ⟨o, its, n, h2, h3, h4, h5, h6⟩, rfl⟩) hg hd
theorem f_glT (ss : List (List Nat)) (G : GlT X.K X.mg x ss) (hg : Gl X x := by rfl) (hd : (x == ("__debug__" : Str)) = false := by decide) : PE X (.Name x pos) (tF ⟨X.K, cl⟩ E (kM (.tup (ss.map .str)))) := by
  obtain ⟨a, o, its, n, h1, h2, h3, h4, h5, h6⟩ := G.ex
  exact f_gl (v := .ref a) (.tup (ss.map .str)) ⟨_, h1, rfl⟩ (fun _ _ _ => ⟨a, _, rfl, .inr ⟨o, its, n, h2, h3, h4, h5, h6⟩, repl_strs ss⟩) hg hd
theorem ss_never {sts : List Stmt} : PSs X sts (tS ⟨X.K, cl⟩ E (seqM noM' skipM)) := ⟨fun pins s σ H D I ⟨P, S, ρ, fl, ρ', w, hm, q⟩ => by cases hm⟩
end
end LI
/-! PM: the greatest of a list of pairs of numbers; the greatest, the least of a list of numbers. -/
namespace LI
open PySem L2
def ltP (p q : Int × Int) : Bool := if p.1 = q.1 then decide (p.2 < q.2) else decide (p.1 < q.1)
def maxP (x : Int × Int) (xs : List (Int × Int)) : Int × Int := xs.foldl (fun a y => if ltP a y = true then y else a) x
inductive Pr2 (H : Hp) : List Addr → List (Int × Int) → Prop
  | nil : Pr2 H [] []
  | cons {y ys p ps} : H y = some (.tup [.int p.1, .int p.2]) → Pr2 H ys ps → Pr2 H (y :: ys) (p :: ps)
def rMaxY (K : PySem.W.Frag) : List V → Hp → VK → Prop := fun vs H Q => ∃ (a : Addr) (ys : List Addr) (z : Int × Int) (zs : List (Int × Int)), vs = [V.ref a] ∧ SqL K H a (ys.map V.ref) ∧ Pr2 H ys (z :: zs) ∧
  ∀ y, y ∈ ys → H y = some (.tup [.int (maxP z zs).1, .int (maxP z zs).2]) → Q (.ref y) H
section
variable {X : Cx} {pins : List (Addr × Obj)} {σ : L2.St} {H : Hp} {s : Shared}
theorem max_eq (x : Int × Int) (xs : List (Int × Int)) : PySem.W.maxOf x xs = maxP x xs := rfl
theorem hold_pr (I : Inv X pins σ H s) : ∀ {ys : List Addr} {ps : List (Int × Int)} {its : List Value}, Pr2 H ys ps → Vals (ys.map V.ref) its → PySem.W.HoldAll s.heap its ps
  | _, _, _, .nil, r => by cases r; exact .nil
  | _, _, _, .cons (y := y) (p := p) h t, r => by
    cases r with
    | cons r rs =>
      cases r
      obtain ⟨its', r', it, _⟩ := I.tuple (.inl (.inl h))
      obtain ⟨t1, t2, rfl⟩ := Vals.int2 r'
      exact .cons (PySem.W.holds_pair it (PySem.W.holds_int _ _) (PySem.W.holds_int _ _)) (hold_pr I t rs)
theorem pr_at {ys : List Addr} {ps : List (Int × Int)} (h : Pr2 H ys ps) : ∀ {i : Nat} {p : Int × Int}, ps[i]? = some p → ∃ y, ys[i]? = some y ∧ H y = some (.tup [.int p.1, .int p.2]) := by
  induction h with
  | nil => intro i p h; simp at h
  | cons h t ih =>
    intro i p e
    cases i with
    | zero => simp at e; subst e; exact ⟨_, rfl, h⟩
    | succ i => exact ih (by simpa using e)
theorem depth2 {n : Nat} (h : n + 64 < cLine) : n + 1 + PySem.W.Datum.depth (Int × Int) < cLine := by
  have : PySem.W.Datum.depth (Int × Int) ≤ 63 := by decide
  omega
theorem cr_maxY (hc : X.calm = true) (hu : X.A.units + 64 < cLine) : CallR X (.builtin "max") (rMaxY X.K) := by
  intro pins s σ H vs us Q I r h
  obtain ⟨a, ys, z, zs, rfl, hs, hp, q⟩ := h
  obtain ⟨its, rv, hl, _⟩ := I.list hs
  rw [Vals.ref1 r]
  have hh := hold_pr I hp rv
  refine PySem.W.max_list_datum (x := z) (xs := zs) (I.ok.hd hc) hl.isList hh (depth2 hu) fun i v h' tk hi hv hk => ?_
  obtain ⟨p, e1, hv1⟩ := hh.at (i := i) (v := v) (by simpa using hi)
  have e2 : p = maxP z zs := by
    obtain ⟨as, r1⟩ := hv1.keeps hk
    obtain ⟨bs, r2⟩ := hv
    have := (PyProof.Rows.reads_det (fun _ _ e _ => e) r1 r2).1
    have e3 : (PyData.tuple [.int (PySem.W.maxOf z zs).1, .int (PySem.W.maxOf z zs).2]) = (PyData.tuple [.int p.1, .int p.2]) := this
    rw [max_eq] at e3
    injection e3 with e3
    injection e3 with e4 e5
    injection e4 with e4
    injection e5 with e5 _
    injection e5 with e5
    exact (Prod.ext e4 e5).symm
  obtain ⟨y, e3, hy⟩ := pr_at hp e1
  subst e2
  have e4 : v = .ref y := by
    obtain ⟨u, e5, e6⟩ := rv.get (i := i) (x := .ref y) (by simp [e3])
    rw [show its[i]? = some v by simpa using hi] at e5
    cases e5
    cases e6
    rfl
  subst e4
  exact ⟨.ref y, H, I.kept hk, rfl, q y (List.mem_of_getElem? e3) hy⟩
end
def prsD : List D → Option (List (Int × Int))
  | [] => some []
  | .key [.inl i, .inl j] :: ds => (prsD ds).map fun ps => (i, j) :: ps
  | _ :: _ => none
theorem prs_v {c : LC} {P H : Hp} (e : Ex P H) : ∀ {ds : List D} {xs : List V} {U : FP} {ps : List (Int × Int)}, prsD ds = some ps → RepL c P H ds xs U → ∃ ys : List Addr, xs = ys.map V.ref ∧ Pr2 H ys ps ∧ Pr2 P ys ps
  | [], xs, U, ps, h, r => by cases h; exact ⟨[], r.1, .nil, .nil⟩
  | .key [.inl i, .inl j] :: ds, xs, U, ps, h, ⟨y, ys, T, T2, e1, ⟨a, e2, hk, _⟩, rs, _⟩ => by
    rw [prsD] at h
    cases z : prsD ds with
    | none => rw [z] at h; cases h
    | some qs =>
      rw [z] at h; cases h
      obtain ⟨as, e3, p1, p2⟩ := prs_v e z rs
      exact ⟨a :: as, by rw [e1, e2, e3]; rfl, .cons (e _ _ hk) p1, .cons hk p2⟩
theorem pr_mem {H : Hp} {ys : List Addr} {ps : List (Int × Int)} (h : Pr2 H ys ps) : ∀ y, y ∈ ys → ∃ p : Int × Int, H y = some (.tup [.int p.1, .int p.2]) := by
  induction h with
  | nil => intro y h; simp at h
  | cons h t ih =>
    intro y e
    rcases List.mem_cons.mp e with rfl | e
    · exact ⟨_, h⟩
    · exact ih y e
def maxYD : List D → Option D
  | [.lst _ ds] => (prsD ds).bind fun ps => match ps with
    | [] => none
    | z :: zs => some (.key [.inl (maxP z zs).1, .inl (maxP z zs).2])
  | _ => none
theorem op_maxY {c : LC} : OpA c (rMaxY c.K) maxYD := by
  intro P H e ds d vs U hf r Q q
  unfold maxYD at hf
  split at hf
  · rename_i o ds'
    obtain ⟨v, T, rfl, r1⟩ := repL1 r
    obtain ⟨a, xs, T', rfl, h, rl, _⟩ := lst_heap e r1
    cases z : prsD ds' with
    | none => rw [z] at hf; cases hf
    | some ps =>
      rw [z, Option.bind_some] at hf
      cases ps with
      | nil => cases hf
      | cons p ps =>
        cases hf
        obtain ⟨ys, rfl, p1, p2⟩ := prs_v e z rl
        refine ⟨a, ys, p, ps, rfl, .inl (.inl h), p1, fun y hy hm => q.flat e ⟨y, rfl, ?_, rfl⟩⟩
        obtain ⟨w, hw⟩ := pr_mem p2 y hy
        have := (e _ _ hw).symm.trans hm
        rw [hw]
        exact this
  · cases hf
def maxLD : List D → Option D
  | [.lst _ ds] => (intsD ds).bind fun is => match is with
    | [] => none
    | z :: zs => some (.int (zs.foldl max z))
  | _ => none
def minLD : List D → Option D
  | [.lst _ ds] => (intsD ds).bind fun is => match is with
    | [] => none
    | z :: zs => some (.int (zs.foldl min z))
  | _ => none
theorem foldl_max : ∀ (zs : List Int) (z : Int), (zs.foldl max z = z ∨ zs.foldl max z ∈ zs) ∧ z ≤ zs.foldl max z ∧ ∀ y ∈ zs, y ≤ zs.foldl max z
  | [], z => ⟨.inl rfl, Int.le_refl _, by simp⟩
  | y :: zs, z => by
    obtain ⟨h1, h2, h3⟩ := foldl_max zs (max z y)
    rw [List.foldl_cons]
    refine ⟨?_, by omega, ?_⟩
    · rcases h1 with h1 | h1
      · rw [h1]
        rcases Int.le_total z y with h | h
        · right; rw [Int.max_eq_right h]; simp
        · left; exact Int.max_eq_left h
      · right; simp [h1]
    · intro x hx
      rcases List.mem_cons.mp hx with rfl | hx
      · omega
      · exact h3 x hx
theorem foldl_min : ∀ (zs : List Int) (z : Int), (zs.foldl min z = z ∨ zs.foldl min z ∈ zs) ∧ zs.foldl min z ≤ z ∧ ∀ y ∈ zs, zs.foldl min z ≤ y
  | [], z => ⟨.inl rfl, Int.le_refl _, by simp⟩
  | y :: zs, z => by
    obtain ⟨h1, h2, h3⟩ := foldl_min zs (min z y)
    rw [List.foldl_cons]
    refine ⟨?_, by omega, ?_⟩
    · rcases h1 with h1 | h1
      · rw [h1]
        rcases Int.le_total z y with h | h
        · left; exact Int.min_eq_left h
        · right; rw [Int.min_eq_right h]; simp
      · right; simp [h1]
    · intro x hx
      rcases List.mem_cons.mp hx with rfl | hx
      · omega
      · exact h3 x hx
theorem op_maxL {c : LC} : OpA c (rMax c.K) maxLD := by
  intro P H e ds d vs U hf r Q q
  unfold maxLD at hf
  split at hf
  · rename_i o ds'
    obtain ⟨v, T, rfl, r1⟩ := repL1 r
    obtain ⟨a, xs, T', rfl, h, rl, _⟩ := lst_heap e r1
    cases z : intsD ds' with
    | none => rw [z] at hf; cases hf
    | some is =>
      rw [z, Option.bind_some] at hf
      cases is with
      | nil => cases hf
      | cons p ps =>
        cases hf
        have := ints_v z rl
        subst this
        obtain ⟨h1, h2, h3⟩ := foldl_max ps p
        refine ⟨a, p :: ps, rfl, .inl (.inl h), by simp, fun m hm hu => ?_⟩
        have : m = ps.foldl max p := by
          have a1 : m ≤ ps.foldl max p := by
            rcases List.mem_cons.mp hm with rfl | hm
            · exact h2
            · exact h3 m hm
          have a2 : ps.foldl max p ≤ m := by
            rcases h1 with h1 | h1
            · rw [h1]; exact hu p (by simp)
            · exact hu _ (by simp [h1])
          omega
        subst this
        exact q.flat e ⟨rfl, rfl⟩
  · cases hf
theorem op_minL {c : LC} : OpA c (rMin c.K) minLD := by
  intro P H e ds d vs U hf r Q q
  unfold minLD at hf
  split at hf
  · rename_i o ds'
    obtain ⟨v, T, rfl, r1⟩ := repL1 r
    obtain ⟨a, xs, T', rfl, h, rl, _⟩ := lst_heap e r1
    cases z : intsD ds' with
    | none => rw [z] at hf; cases hf
    | some is =>
      rw [z, Option.bind_some] at hf
      cases is with
      | nil => cases hf
      | cons p ps =>
        cases hf
        have := ints_v z rl
        subst this
        obtain ⟨h1, h2, h3⟩ := foldl_min ps p
        refine ⟨a, p :: ps, rfl, .inl (.inl h), by simp, fun m hm hu => ?_⟩
        have : m = ps.foldl min p := by
          have a1 : ps.foldl min p ≤ m := by
            rcases List.mem_cons.mp hm with rfl | hm
            · exact h2
            · exact h3 m hm
          have a2 : m ≤ ps.foldl min p := by
            rcases h1 with h1 | h1
            · rw [h1]; exact hu p (by simp)
            · exact hu _ (by simp [h1])
          omega
        subst this
        exact q.flat e ⟨rfl, rfl⟩
  · cases hf
/-! ### lifted -/
def maxYT : List (Int × Int) → Option (Int × Int)
  | [] => none
  | z :: zs => some (maxP z zs)
def maxLT : List Int → Option Int
  | [] => none
  | z :: zs => some (zs.foldl max z)
def minLT : List Int → Option Int
  | [] => none
  | z :: zs => some (zs.foldl min z)
theorem prs_map : ∀ ps : List (Int × Int), prsD (ps.map (eY (k2 kI kI))) = some ps
  | [] => rfl
  | p :: ps => by
    show (prsD (ps.map (eY (k2 kI kI)))).map (fun qs => (p.1, p.2) :: qs) = _
    rw [prs_map ps]; rfl
theorem o1_maxY {o : Bool} : O1 (fun d => maxYD [d]) (eL o (eY (k2 kI kI))) (eY (k2 kI kI)) maxYT := fun x z h => by
  show (prsD (x.map (eY (k2 kI kI)))).bind _ = _
  rw [prs_map, Option.bind_some]
  cases x with
  | nil => cases h
  | cons p ps => cases h; rfl
theorem o1_maxL {o : Bool} : O1 (fun d => maxLD [d]) (eL o eI) eI maxLT := fun x z h => by
  show (intsD (x.map D.int)).bind _ = _
  rw [ints_map (f := fun i => i), List.map_id', Option.bind_some]
  cases x with
  | nil => cases h
  | cons p ps => cases h; rfl
theorem o1_minL {o : Bool} : O1 (fun d => minLD [d]) (eL o eI) eI minLT := fun x z h => by
  show (intsD (x.map D.int)).bind _ = _
  rw [ints_map (f := fun i => i), List.map_id', Option.bind_some]
  cases x with
  | nil => cases h
  | cons p ps => cases h; rfl
end LI
/-! PN: more of dicts: get, in, len where the keys are tuples; in, len where they are not. -/
namespace LI
open PySem L2
def getT1D : D → D → Option D
  | .dT _ ks ds, .key k => some ((under ks ds k).getD .non)
  | _, _ => none
def inTD : D → D → Option D
  | .key k, .dT _ ks ds => some (.bl (under ks ds k).isSome)
  | _, _ => none
def ninTD : D → D → Option D
  | .key k, .dT _ ks ds => some (.bl (!(under ks ds k).isSome))
  | _, _ => none
section
variable {X : Cx} {cl : Nat → Addr} {E : En} {e a b o i : Expr} {es : List Expr} {pos p apos cpos : Pos} {m ma mb : RM} {ms : AM} {L : Lens}
theorem r_getT1 (hu : X.A.units + 1 < cLine) (ho : PE X o (tR ⟨X.K, cl⟩ E ma)) (he : PE X e (tR ⟨X.K, cl⟩ E mb)) (hm : M1 X o "get" apos e cpos := by exact ⟨rfl, rfl, rfl, rfl⟩) : PE X (.Call (.Attribute o "get" apos) [e] [] cpos) (tR ⟨X.K, cl⟩ E (m2 getT1D ma mb)) :=
  PE_imp (pe_dget1 hu ho he hm) fun σ H Q ⟨P, S, T, ρ, d, w, hm, q⟩ => by
    obtain ⟨da, db, ea, eb, h⟩ := m2_split hm
    unfold getT1D at h
    split at h
    · rename_i o ks ds k
      cases h
      refine ⟨P, S, T, ρ, _, w, ea, fun v H1 P1 U1 g1 r1 => ?_⟩
      obtain ⟨a, xs, T1, rfl, h1, n1, rl, _⟩ := dt_heap g1.ph r1
      refine ⟨a, rfl, .inr ⟨_, .inl h1⟩, P1, S, T, ρ, .key k, w.grow g1, eb, fun y H2 P2 U2 g2 r2 => ?_⟩
      obtain ⟨kb, e2, hk, _⟩ := r2
      refine ⟨valV (ks.zip xs) k, by rw [e2]; exact DGet.t (g2.h _ _ h1) (g2.ph _ _ hk), ?_⟩
      have hv := valT_under n1 (rl.gr g2) k
      cases hz : under ks ds k with
      | some d =>
        rw [hz] at hv q
        obtain ⟨x', T', hx, hr, _⟩ := hv
        rw [hx]
        exact q _ _ _ _ (g1.trans g2) hr
      | none =>
        rw [hz] at hv q
        rw [hv]
        exact q _ _ _ fz (g1.trans g2) ⟨rfl, rfl⟩
    · cases h
theorem inT_some {c : LC} {P H : Hp} {ks : List (List Key)} {ds : List D} {xs : List V} {T : FP} (n : ks.length = xs.length) (rl : RepL c P H ds xs T) (k : List Key) : (valV (ks.zip xs) k).isSome = (under ks ds k).isSome := by
  have hv := valT_under n rl k
  cases hz : under ks ds k with
  | some d =>
    rw [hz] at hv
    obtain ⟨x', T', hx, _⟩ := hv
    rw [hx]; rfl
  | none =>
    rw [hz] at hv
    rw [hv]; rfl
theorem din_run {neg : Bool} {σ : L2.St} {H : Hp} {P : Hp} {S T : FP} {ρ : List D} {Q : VK} (w : Wd ⟨X.K, cl⟩ E P S T σ H ρ) {k : List Key} {o : Bool} {ks : List (List Key)} {ds : List D} (ea : ma ρ = some (.key k)) (eb : mb ρ = some (.dT o ks ds)) (q : ∀ H' P', Gr P H P' H' → Q (.bl (if neg = true then !(under ks ds k).isSome else (under ks ds k).isSome)) H') :
    tR ⟨X.K, cl⟩ E ma σ H fun y H1 => tR ⟨X.K, cl⟩ E mb σ H1 fun x H2 => ∃ a o, x = .ref a ∧ DGet H2 a y o ∧ Q (.bl (if neg = true then !o.isSome else o.isSome)) H2 := by
  refine ⟨P, S, T, ρ, .key k, w, ea, fun y H1 P1 U1 g1 r1 => ⟨P1, S, T, ρ, .dT o ks ds, w.grow g1, eb, fun x H2 P2 U2 g2 r2 => ?_⟩⟩
  obtain ⟨p, xs, T', e1, hh, n, rl, _⟩ := dt_heap g2.ph r2
  obtain ⟨kb, e2, hk, _⟩ := r1
  refine ⟨p, valV (ks.zip xs) k, e1, by rw [e2]; exact DGet.t hh (g2.h _ _ (g1.ph _ _ hk)), ?_⟩
  rw [inT_some n rl]
  exact q H2 P2 (g1.trans g2)
theorem f_inT (hu : X.A.units + 64 < cLine) (ha : PE X a (tR ⟨X.K, cl⟩ E ma)) (hb : PE X b (tR ⟨X.K, cl⟩ E mb)) (hm : behindInMarks .In b = false := by rfl) : PE X (.Compare a [.In] [b] pos) (tF ⟨X.K, cl⟩ E (m2 inTD ma mb)) :=
  PE_imp (pe_cmp (pc_din (Nat.lt_of_le_of_lt (by omega) hu) ha hb) hm) fun σ H Q ⟨P, S, T, ρ, d, w, h, q⟩ => by
    obtain ⟨da, db, ea, eb, h⟩ := m2_split h
    unfold inTD at h
    split at h
    · cases h
      exact din_run (neg := false) w ea eb fun H' P' g => q _ H' P' fz g ⟨rfl, rfl⟩ (fun _ => Nat.zero_le _) fun a z => by simp [fz] at z
    · cases h
theorem f_ninT (hu : X.A.units + 64 < cLine) (ha : PE X a (tR ⟨X.K, cl⟩ E ma)) (hb : PE X b (tR ⟨X.K, cl⟩ E mb)) (hm : behindInMarks .NotIn b = false := by rfl) : PE X (.Compare a [.NotIn] [b] pos) (tF ⟨X.K, cl⟩ E (m2 ninTD ma mb)) :=
  PE_imp (pe_cmp (pc_dnotin (Nat.lt_of_le_of_lt (by omega) hu) ha hb) hm) fun σ H Q ⟨P, S, T, ρ, d, w, h, q⟩ => by
    obtain ⟨da, db, ea, eb, h⟩ := m2_split h
    unfold ninTD at h
    split at h
    · cases h
      exact din_run (neg := true) w ea eb fun H' P' g => q _ H' P' fz g ⟨rfl, rfl⟩ (fun _ => Nat.zero_le _) fun a z => by simp [fz] at z
    · cases h
theorem t_inT (hu : X.A.units + 64 < cLine) (ha : PE X a (tR ⟨X.K, cl⟩ E ma)) (hb : PE X b (tR ⟨X.K, cl⟩ E mb)) (hm : behindInMarks .In b = false := by rfl) : PT X (.Compare a [.In] [b] pos) (tT ⟨X.K, cl⟩ E (bM (m2 inTD ma mb))) :=
  PT_imp (pt_cmp (pc_din (Nat.lt_of_le_of_lt (by omega) hu) ha hb) hm) fun σ H Q ⟨P, S, T, ρ, d, w, h, q⟩ => by
    obtain ⟨da, db, ea, eb, h⟩ := m2_split (bM_some h)
    unfold inTD at h
    split at h
    · cases h
      exact din_run (neg := false) (Q := fun x H' => ∃ k, x = .bl k ∧ Q k H') w ea eb fun H' P' g => ⟨_, rfl, q H' P' g⟩
    · cases h
theorem t_ninT (hu : X.A.units + 64 < cLine) (ha : PE X a (tR ⟨X.K, cl⟩ E ma)) (hb : PE X b (tR ⟨X.K, cl⟩ E mb)) (hm : behindInMarks .NotIn b = false := by rfl) : PT X (.Compare a [.NotIn] [b] pos) (tT ⟨X.K, cl⟩ E (bM (m2 ninTD ma mb))) :=
  PT_imp (pt_cmp (pc_dnotin (Nat.lt_of_le_of_lt (by omega) hu) ha hb) hm) fun σ H Q ⟨P, S, T, ρ, d, w, h, q⟩ => by
    obtain ⟨da, db, ea, eb, h⟩ := m2_split (bM_some h)
    unfold ninTD at h
    split at h
    · cases h
      exact din_run (neg := true) (Q := fun x H' => ∃ k, x = .bl k ∧ Q k H') w ea eb fun H' P' g => ⟨_, rfl, q H' P' g⟩
    · cases h
end
def lenTD : List D → Option D
  | [.dT _ ks _] => some (.int ks.length)
  | _ => none
theorem op_lenT {c : LC} : OpA c rLenT lenTD := by
  intro P H e ds d vs U hf r Q q
  unfold lenTD at hf
  split at hf
  · cases hf
    obtain ⟨v, T, rfl, r1⟩ := repL1 r
    obtain ⟨a, xs, T', rfl, h, n, rl, _⟩ := dt_heap e r1
    refine ⟨a, _, rfl, h, ?_⟩
    rw [List.length_zip, ← n, Nat.min_self]
    exact q.flat e ⟨rfl, rfl⟩
  · cases hf
/-! ### lifted -/
section
variable {α β γ κ τ : Type} {kk : κ → List Key} {kq : κ → Key} {ek : κ → D} {a : α → D} {o : Bool} {ρ : List D} {m ma mb : RM}
theorem underT [DecidableEq κ] [KyT kk] (k : κ) : ∀ m : List (κ × α), under (m.map fun p => kk p.1) (m.map fun p => a p.2) (kk k) = (getT m k).map a
  | [] => rfl
  | p :: m => by
    rw [List.map_cons, List.map_cons]
    unfold under getT
    by_cases h : p.1 = k
    · rw [if_pos h, h, if_pos rfl]; rfl
    · rw [if_neg h, if_neg (fun q => h (KyT.inj _ _ q)), underT k m]
theorem x_getT1 [DecidableEq κ] [KyT kk] {om : Option (List (κ × α))} {ok : Option κ} (h : Ev (eDT o kk a) ma ρ om) (hk : Ev (eY kk) mb ρ ok) : Ev (eO a) (m2 getT1D ma mb) ρ (om.bind fun m => ok.bind fun k => some (getT m k)) := fun z hz => by
  obtain ⟨m, h1, h2⟩ := ob_some hz
  obtain ⟨k, h3, h4⟩ := ob_some h2
  cases h4
  unfold m2
  rw [h m h1, Option.bind_some, hk k h3, Option.bind_some]
  show some (Option.getD (under (m.map fun p => kk p.1) (m.map fun p => a p.2) (kk k)) D.non) = _
  rw [underT]
  cases getT m k <;> rfl
theorem x_getT1o [DecidableEq κ] [KyT kk] {om : Option (List (κ × Option α))} {ok : Option κ} (h : Ev (eDT o kk (eO a)) ma ρ om) (hk : Ev (eY kk) mb ρ ok) : Ev (eO a) (m2 getT1D ma mb) ρ (om.bind fun m => ok.bind fun k => some ((getT m k).bind fun x => x)) := fun z hz => by
  obtain ⟨m, h1, h2⟩ := ob_some hz
  obtain ⟨k, h3, h4⟩ := ob_some h2
  cases h4
  unfold m2
  rw [h m h1, Option.bind_some, hk k h3, Option.bind_some]
  show some (Option.getD (under (m.map fun p => kk p.1) (m.map fun p => eO a p.2) (kk k)) D.non) = _
  rw [underT]
  cases getT m k with
  | none => rfl
  | some x => cases x <;> rfl
theorem o2_inT [DecidableEq κ] [KyT kk] : O2 inTD (eY kk) (eDT o kk a) eB (fun k m => some (getT m k).isSome) := fun k m z h => by
  cases h
  show some (D.bl (under (m.map fun p => kk p.1) (m.map fun p => a p.2) (kk k)).isSome) = _
  rw [underT]
  cases getT m k <;> rfl
theorem o2_ninT' [DecidableEq κ] [KyT kk] : O2 ninTD (eY kk) (eDT o kk a) eB (fun k m => some (!(getT m k).isSome)) := fun k m z h => by
  cases h
  show some (D.bl (!(under (m.map fun p => kk p.1) (m.map fun p => a p.2) (kk k)).isSome)) = _
  rw [underT]
  cases getT m k <;> rfl
theorem o1_lenT : O1 (fun d => lenTD [d]) (eDT o kk a) eI (fun m => some (m.length : Int)) := fun m z h => by
  cases h
  show some (D.int ((m.map fun p => kk p.1).length : Int)) = _
  rw [List.length_map]; rfl
theorem o1_lenDK : O1 (fun d => lenD [d]) (eD o kq a) eI (fun m => some (m.length : Int)) := fun m z h => by
  cases h
  show some (D.int ((m.map fun p => kq p.1).length : Int)) = _
  rw [List.length_map]; rfl
instance : Ki (eDT o kk a) "dict" := ⟨fun _ => rfl⟩
end
end LI
/-! PO: sorted of a list of data. -/
namespace LI
open PySem L2
def keyQ : Key → PyData
  | .inl i => .int i
  | .inr s => .str s
mutual
def toQ : D → Option PyData
  | .int i => some (.int i)
  | .str s => some (.str ⟨s.toArray⟩)
  | .key ks => some (.tuple (ks.map keyQ))
  | .tup ds => (toQL ds).map .tuple
  | _ => none
def toQL : List D → Option (List PyData)
  | [] => some []
  | d :: ds => (toQ d).bind fun p => (toQL ds).map fun ps => p :: ps
end
mutual
/-- a value that reads as data -/
def VD (K : PySem.W.Frag) (H : Hp) : PyData → V → Prop
  | .int i, v => v = .int i
  | .str s, v => v = .str s
  | .tuple ps, v => ∃ a xs, v = .ref a ∧ SqT K H a xs ∧ VDL K H ps xs
  | _, _ => False
def VDL (K : PySem.W.Frag) (H : Hp) : List PyData → List V → Prop
  | [], xs => xs = []
  | p :: ps, xs => ∃ y ys, xs = y :: ys ∧ VD K H p y ∧ VDL K H ps ys
end
section
variable {X : Cx} {pins : List (Addr × Obj)} {σ : L2.St} {H : Hp} {s : Shared}
mutual
theorem vd_reads (I : Inv X pins σ H s) : ∀ (p : PyData) (v : V) (u : Value), VD X.K H p v → RelV v u → ∃ as, Reads s.heap u p as
  | .int i, v, u, h, r => by
    have h : v = .int i := h
    subst h
    obtain ⟨t, rfl⟩ := r
    exact ⟨_, .int i t⟩
  | .str x, v, u, h, r => by
    have h : v = .str x := h
    subst h
    obtain ⟨t, rfl⟩ := r
    exact ⟨_, .str x t⟩
  | .tuple ps, v, u, h, r => by
    obtain ⟨a, xs, e, hs, hl⟩ := h
    subst e
    cases r
    obtain ⟨its, rv, ⟨o, ho, hc, n, hd⟩, _⟩ := I.tuple hs
    obtain ⟨as, ra⟩ := vdl_reads I ps xs its hl rv
    exact ⟨_, .tuple ho hc hd ra⟩
  | .none, v, u, h, r => h.elim
  | .bool _, v, u, h, r => h.elim
  | .list _, v, u, h, r => h.elim
  | .dict _, v, u, h, r => h.elim
theorem vdl_reads (I : Inv X pins σ H s) : ∀ (ps : List PyData) (xs : List V) (us : List Value), VDL X.K H ps xs → Vals xs us → ∃ as, ReadsAll s.heap us ps as
  | [], xs, us, h, r => by
    have h : xs = [] := h
    subst h
    cases r
    exact ⟨_, .nil⟩
  | p :: ps, xs, us, h, r => by
    obtain ⟨y, ys, e, h1, h2⟩ := h
    subst e
    cases r with
    | cons r rs =>
      obtain ⟨as, ra⟩ := vd_reads I p y _ h1 r
      obtain ⟨bs, rb⟩ := vdl_reads I ps ys _ h2 rs
      exact ⟨_, .cons ra rb⟩
end
end
mutual
theorem toQ_vd {c : LC} {P H : Hp} (e : Ex P H) : ∀ (d : D) (v : V) (U : FP) (p : PyData), toQ d = some p → Rep c P H d v U → VD c.K H p v
  | .int i, v, U, p, h, r => by cases h; exact r.1
  | .str s, v, U, p, h, r => by cases h; exact r.1
  | .key ks, v, U, p, h, r => by
    cases h
    obtain ⟨a, e1, hk, _⟩ := r
    refine ⟨a, ks.map kV, e1, .inl (.inl (e _ _ hk)), ?_⟩
    clear hk
    induction ks with
    | nil => rfl
    | cons k ks ih => exact ⟨_, _, rfl, by cases k <;> rfl, ih⟩
  | .tup ds, v, U, p, h, r => by
    rw [toQ] at h
    cases z : toQL ds with
    | none => rw [z] at h; cases h
    | some ps =>
      rw [z] at h; cases h
      obtain ⟨a, xs, e1, hs, rl⟩ := r
      exact ⟨a, xs, e1, sqt_mono e hs, toQL_vdl e ds xs U ps z rl⟩
  | .gone, v, U, p, h, r => by cases h
  | .non, v, U, p, h, r => by cases h
  | .bl _, v, U, p, h, r => by cases h
  | .scr _, v, U, p, h, r => by cases h
  | .kst _, v, U, p, h, r => by cases h
  | .lst _ _, v, U, p, h, r => by cases h
  | .dK _ _ _, v, U, p, h, r => by cases h
  | .dT _ _ _, v, U, p, h, r => by cases h
  | .obj _ _ _ _, v, U, p, h, r => by cases h
theorem toQL_vdl {c : LC} {P H : Hp} (e : Ex P H) : ∀ (ds : List D) (xs : List V) (U : FP) (ps : List PyData), toQL ds = some ps → RepL c P H ds xs U → VDL c.K H ps xs
  | [], xs, U, ps, h, r => by cases h; exact r.1
  | d :: ds, xs, U, ps, h, ⟨y, ys, T, T2, e1, r, rs, _⟩ => by
    rw [toQL] at h
    cases z : toQ d with
    | none => rw [z] at h; cases h
    | some p =>
      rw [z, Option.bind_some] at h
      cases z2 : toQL ds with
      | none => rw [z2] at h; cases h
      | some qs =>
        rw [z2] at h; cases h
        exact ⟨y, ys, e1, toQ_vd e d y T p z r, toQL_vdl e ds ys T2 qs z2 rs⟩
end
theorem VDL.len {K : PySem.W.Frag} {H : Hp} : ∀ {ps : List PyData} {xs : List V}, VDL K H ps xs → ps.length = xs.length
  | [], xs, h => by obtain rfl : xs = [] := h; rfl
  | p :: ps, xs, ⟨y, ys, e, _, h⟩ => by subst e; simp [VDL.len h]
/-! ### sorted -/
def isTupP : PyData → Bool
  | .tuple (_ :: _) => true
  | _ => false
def isPlP : PyData → Bool
  | .tuple _ => false
  | .none => false
  | _ => true
def okP (ps : List PyData) : Bool := (ps.all fun p => ps.all fun q => PySem.W.alike p q) && (ps.all isTupP || ps.all isPlP) && ps.all fun p => decide (p.depth ≤ 60)
def srt {α : Type} (xs : List (α × PyData)) : List α := (xs.mergeSort (PySem.W.dataLe false fun b => b.2)).map (·.1)
def rSortY (K : PySem.W.Frag) : List V → Hp → VK → Prop := fun vs H Q => ∃ (a : Addr) (xs : List V) (ps : List PyData), vs = [V.ref a] ∧ SqL K H a xs ∧ VDL K H ps xs ∧ okP ps = true ∧ ps.length ≤ LIM ∧
  ∀ l, H l = none → Q (.ref l) (upd H l (.lst (srt (xs.zip ps))))
section
variable {X : Cx} {pins : List (Addr × Obj)} {σ : L2.St} {H : Hp} {s : Shared}
theorem each_zip {R : Value → V × PyData → Prop} : ∀ {us : List Value} {xs : List V} {ps : List PyData}, Vals xs us → ps.length = xs.length → (∀ x u p, RelV x u → R u (x, p)) → PySem.W.EachIs R us (xs.zip ps)
  | _, _, ps, .nil, h, k => by cases ps <;> first | exact .nil | simp at h
  | _, _, [], .cons r rs, h, k => by simp at h
  | _, _, p :: ps, .cons r rs, h, k => .cons (k _ _ _ r) (each_zip rs (by simpa using h) k)
theorem each_reads (I : Inv X pins σ H s) : ∀ {us : List Value} {xs : List V} {ps : List PyData}, Vals xs us → VDL X.K H ps xs → PySem.W.EachIs (fun v (b : V × PyData) => ∃ as, Reads s.heap v b.2 as) us (xs.zip ps)
  | _, _, [], r, h => by
    obtain rfl : _ = [] := h
    cases r
    exact .nil
  | _, _, p :: ps, r, h => by
    obtain ⟨y, ys, e, h1, h2⟩ := h
    subst e
    cases r with
    | cons r rs => exact .cons (vd_reads I p y _ h1 r) (each_reads I rs h2)
theorem each_vals : ∀ {us : List Value} {bs : List (V × PyData)}, PySem.W.EachIs (fun v (b : V × PyData) => RelV b.1 v) us bs → Vals (bs.map (·.1)) us
  | _, _, .nil => .nil
  | _, _, .cons h t => .cons h (each_vals t)
theorem zip_snd : ∀ {xs : List V} {ps : List PyData}, ps.length = xs.length → (xs.zip ps).map (·.2) = ps
  | [], [], _ => rfl
  | [], _ :: _, h => by simp at h
  | _ :: _, [], h => by simp at h
  | x :: xs, p :: ps, h => by rw [List.zip_cons_cons, List.map_cons, zip_snd (by simpa using h)]
theorem cr_sortY (hc : X.calm = true) (hu : X.A.units + 64 < cLine) : CallR X (.builtin "sorted") (rSortY X.K) := by
  intro pins s σ H vs us Q I r h
  obtain ⟨a, xs, ps, rfl, hs, hv, hok, hl, q⟩ := h
  obtain ⟨its, rv, hli, _⟩ := I.list hs
  rw [Vals.ref1 r]
  have hlen := hv.len
  unfold okP at hok
  rw [Bool.and_eq_true, Bool.and_eq_true] at hok
  obtain ⟨⟨k1, k2⟩, k3⟩ := hok
  have hm : (xs.zip ps).map (fun b : V × PyData => b.2) = ps := zip_snd hlen
  have hzl : (xs.zip ps).length = xs.length := by rw [List.length_zip]; omega
  refine PySem.W.sorted_data (R := fun v (b : V × PyData) => RelV b.1 v) (enc := fun b : V × PyData => b.2) (bs := xs.zip ps) (vs := its) hli.isList (each_zip rv hlen fun _ _ _ r => r) (each_reads I rv hv) ?_ ?_ (by rw [hzl, ← hlen]; exact lim_le hl) ?_ fun out h1 h2 => ?_
  · rw [hm]
    intro d hd d' hd'
    exact List.all_eq_true.mp (List.all_eq_true.mp k1 d hd) d' hd'
  · rw [hm]
    rw [Bool.or_eq_true] at k2
    rcases k2 with k2 | k2
    · left
      intro d hd
      have := List.all_eq_true.mp k2 d hd
      unfold isTupP at this
      split at this
      · exact ⟨_, _, rfl⟩
      · cases this
    · right
      intro d hd
      have := List.all_eq_true.mp k2 d hd
      exact ⟨fun h => (by subst h; cases this), fun xs h => (by subst h; cases this)⟩
  · intro b hb
    have : b.2 ∈ ps := by rw [← hm]; exact List.mem_map.mpr ⟨b, hb, rfl⟩
    have := of_decide_eq_true (List.all_eq_true.mp k3 _ this)
    omega
  · obtain ⟨ep, he⟩ := PyProof.Rows.sortedAll_at s.heap its out.toArray
    have hsl : (srt (xs.zip ps)).length = xs.length := by unfold srt; rw [List.length_map, List.length_mergeSort, hzl]
    exact ⟨.ref _, upd H (s.heap.objs.size + 1) (.lst (srt (xs.zip ps))), I.laid (t' := s.toks) (fun _ _ => PyProof.Rows.sortedAll_old) (Nat.le_succ _) ⟨by rw [hsl, ← hlen]; exact lim_le hl, out, ep, each_vals h2, he⟩, rfl, q _ (I.hok.fresh (Nat.le_succ _))⟩
end
def sortYD : List D → Option D
  | [.lst _ ds] => (toQL ds).bind fun ps => if okP ps = true ∧ frzL ds = true ∧ ps.length ≤ LIM then some (.lst true (srt (ds.zip ps))) else none
  | _ => none
theorem repL_of {c : LC} {P H : Hp} : ∀ {l : List (D × V)}, (∀ q ∈ l, Rep c P H q.1 q.2 fz) → RepL c P H (l.map (·.1)) (l.map (·.2)) fz
  | [], _ => ⟨rfl, rfl⟩
  | q :: l, h => ⟨_, _, fz, fz, rfl, h q (by simp), repL_of fun q hq => h q (by simp [hq]), (fa_fz fz).symm⟩
theorem repL_to {c : LC} {P H : Hp} : ∀ {ds : List D} {xs : List V}, RepL c P H ds xs fz → ∀ q ∈ ds.zip xs, Rep c P H q.1 q.2 fz
  | [], xs, _, q, h => by simp at h
  | d :: ds, xs, ⟨y, ys, T, U, e, r, rs, f⟩, q, h => by
    subst e
    have hT : T = fz := by funext b; have := congrFun f b; simp only [fa, fz] at this ⊢; omega
    have hU : U = fz := by funext b; have := congrFun f b; simp only [fa, fz] at this ⊢; omega
    subst hT hU
    rw [List.zip_cons_cons] at h
    rcases List.mem_cons.mp h with rfl | h
    · exact r
    · exact repL_to rs q h
theorem toQL_len : ∀ {ds : List D} {ps : List PyData}, toQL ds = some ps → ps.length = ds.length
  | [], ps, h => by cases h; rfl
  | d :: ds, ps, h => by
    rw [toQL] at h
    cases z : toQ d with
    | none => rw [z] at h; cases h
    | some p =>
      rw [z, Option.bind_some] at h
      cases z2 : toQL ds with
      | none => rw [z2] at h; cases h
      | some qs => rw [z2] at h; cases h; simp [toQL_len z2]
theorem srt_map {α β : Type} (f : α → β) (l : List (α × PyData)) : (srt l).map f = srt (l.map fun q => (f q.1, q.2)) := by
  unfold srt
  rw [List.map_map]
  have := List.map_mergeSort (r := PySem.W.dataLe false fun b : α × PyData => b.2) (s := PySem.W.dataLe false fun b : β × PyData => b.2) (f := fun q : α × PyData => (f q.1, q.2)) (l := l) (fun a _ b _ => rfl)
  rw [← this, List.map_map]
  rfl
theorem zip3 : ∀ {ds : List D} {xs : List V} {ps : List PyData}, ds.length = xs.length → ps.length = ds.length → (((ds.zip xs).zip ps).map fun q => (q.1.1, q.2)) = ds.zip ps ∧ (((ds.zip xs).zip ps).map fun q => (q.1.2, q.2)) = xs.zip ps
  | [], [], ps, _, _ => by simp
  | [], _ :: _, ps, h, _ => by simp at h
  | _ :: _, [], ps, h, _ => by simp at h
  | d :: ds, x :: xs, [], h, h2 => by simp at h2
  | d :: ds, x :: xs, p :: ps, h, h2 => by
    obtain ⟨h3, h4⟩ := zip3 (ds := ds) (xs := xs) (ps := ps) (by simpa using h) (by simpa using h2)
    simp [h3, h4]
theorem srt_mem {α : Type} {l : List (α × PyData)} {x : α} (h : x ∈ srt l) : ∃ p, (x, p) ∈ l := by
  unfold srt at h
  obtain ⟨q, hq, rfl⟩ := List.mem_map.mp h
  exact ⟨q.2, List.mem_mergeSort.mp hq⟩
theorem op_sortY {c : LC} : OpA c (rSortY c.K) sortYD := by
  intro P H e ds d vs U hf r Q q
  unfold sortYD at hf
  split at hf
  · rename_i o ds'
    obtain ⟨v, T, rfl, r1⟩ := repL1 r
    cases z : toQL ds' with
    | none => rw [z] at hf; cases hf
    | some ps =>
      rw [z, Option.bind_some] at hf
      split at hf
      · rename_i hk
        cases hf
        obtain ⟨a, xs, T', rfl, h, rl, _⟩ := lst_heap e r1
        have hz := RepL.frz0 ds' xs T' hk.2.1 rl
        subst hz
        have hlen := toQL_len z
        refine ⟨a, xs, ps, rfl, .inl (.inl h), toQL_vdl e ds' xs fz ps z rl, hk.1, hk.2.2, ?_⟩
        obtain ⟨z1, z2⟩ := zip3 (ds := ds') (xs := xs) (ps := ps) (by first | exact rl.length | exact rl.length.symm) hlen
        have e1 : srt (ds'.zip ps) = (srt ((ds'.zip xs).zip ps)).map (·.1) := by rw [srt_map, z1]
        have e2 : srt (xs.zip ps) = (srt ((ds'.zip xs).zip ps)).map (·.2) := by rw [srt_map, z2]
        have hr : RepL c P H (srt (ds'.zip ps)) (srt (xs.zip ps)) fz := by
          rw [e1, e2]
          refine repL_of fun q hq => ?_
          obtain ⟨p, hp⟩ := srt_mem hq
          exact repL_to rl q (List.of_mem_zip hp).1
        exact q.lst e hr
      · cases hf
  · cases hf
/-! ### lifted -/
class Sd {α : Type} (e : α → D) (p : outParam (α → PyData)) (n : outParam Nat) : Prop where
  to : ∀ x, toQ (e x) = some (p x)
  al : ∀ x y, PySem.W.alike (p x) (p y) = true
  dp : ∀ x, (p x).depth ≤ n
  ok : (∀ x, isTupP (p x) = true) ∨ ∀ x, isPlP (p x) = true
def pI (i : Int) : PyData := .int i
def pS (s : Ts) : PyData := .str ⟨(s.map Char.toNat).toArray⟩
instance : Sd eI pI 0 := ⟨fun _ => rfl, fun _ _ => rfl, fun _ => Nat.zero_le _, .inr fun _ => rfl⟩
instance : Sd eS pS 0 := ⟨fun _ => rfl, fun _ _ => rfl, fun _ => Nat.zero_le _, .inr fun _ => rfl⟩
def p2 {α β : Type} (p : α → PyData) (q : β → PyData) (t : α × β) : PyData := .tuple [p t.1, q t.2]
def p3 {α β γ : Type} (p : α → PyData) (q : β → PyData) (r : γ → PyData) (t : α × β × γ) : PyData := .tuple [p t.1, q t.2.1, r t.2.2]
instance {α β : Type} {a : α → D} {b : β → D} {p : α → PyData} {q : β → PyData} {n m : Nat} [Sd a p n] [Sd b q m] : Sd (e2 a b) (p2 p q) (max n m + 1) := ⟨fun t => by
  show (toQL [a t.1, b t.2]).map PyData.tuple = _
  simp only [toQL, Sd.to (e := a), Sd.to (e := b)]; rfl, fun t u => by
  show PySem.W.alikeAll [p t.1, q t.2] [p u.1, q u.2] = true
  simp only [PySem.W.alikeAll, Sd.al (e := a), Sd.al (e := b)]; rfl, fun t => by
  show PyData.depthAll [p t.1, q t.2] + 1 ≤ _
  have h1 := Sd.dp (e := a) t.1
  have h2 := Sd.dp (e := b) t.2
  simp only [PyData.depthAll]; omega, .inl fun _ => rfl⟩
instance {α β γ : Type} {a : α → D} {b : β → D} {c : γ → D} {p : α → PyData} {q : β → PyData} {r : γ → PyData} {n m k : Nat} [Sd a p n] [Sd b q m] [Sd c r k] : Sd (e3 a b c) (p3 p q r) (max n (max m k) + 1) := ⟨fun t => by
  show (toQL [a t.1, b t.2.1, c t.2.2]).map PyData.tuple = _
  simp only [toQL, Sd.to (e := a), Sd.to (e := b), Sd.to (e := c)]; rfl, fun t u => by
  show PySem.W.alikeAll [p t.1, q t.2.1, r t.2.2] [p u.1, q u.2.1, r u.2.2] = true
  simp only [PySem.W.alikeAll, Sd.al (e := a), Sd.al (e := b), Sd.al (e := c)]; rfl, fun t => by
  show PyData.depthAll [p t.1, q t.2.1, r t.2.2] + 1 ≤ _
  have h1 := Sd.dp (e := a) t.1
  have h2 := Sd.dp (e := b) t.2.1
  have h3 := Sd.dp (e := c) t.2.2
  simp only [PyData.depthAll]; omega, .inl fun _ => rfl⟩
def pY2 (t : Int × Int) : PyData := .tuple [.int t.1, .int t.2]
instance : Sd (eY (k2 kI kI)) pY2 1 := ⟨fun _ => rfl, fun _ _ => rfl, fun _ => by
  show PyData.depthAll [_, _] + 1 ≤ 1
  simp [PyData.depthAll, PyData.depth], .inl fun _ => rfl⟩
def sortT {α : Type} (p : α → PyData) (xs : List α) : Option (List α) := if xs.length ≤ LIM then some (xs.mergeSort (PySem.W.dataLe false p)) else none
theorem toQL_map {α : Type} {e : α → D} {p : α → PyData} {n : Nat} [Sd e p n] : ∀ xs : List α, toQL (xs.map e) = some (xs.map p)
  | [] => rfl
  | x :: xs => by
    show (toQ (e x)).bind (fun p => (toQL (xs.map e)).map fun ps => p :: ps) = _
    rw [Sd.to (p := p) x, toQL_map xs]; rfl
theorem o1_sort {α : Type} {e : α → D} {p : α → PyData} {n : Nat} [Sd e p n] [Fz e] {o : Bool} (hn : n ≤ 60) : O1 (fun d => sortYD [d]) (eL o e) (eL true e) (sortT p) := fun x z h => by
  unfold sortT at h
  split at h
  · rename_i hl
    cases h
    show (toQL (x.map e)).bind _ = _
    have hk : okP (x.map p) = true := by
      unfold okP
      rw [Bool.and_eq_true, Bool.and_eq_true]
      refine ⟨⟨?_, ?_⟩, ?_⟩
      · rw [List.all_eq_true]
        intro a ha
        rw [List.all_eq_true]
        intro b hb
        obtain ⟨u, _, rfl⟩ := List.mem_map.mp ha
        obtain ⟨w, _, rfl⟩ := List.mem_map.mp hb
        exact Sd.al (e := e) u w
      · rw [Bool.or_eq_true]
        rcases Sd.ok (e := e) (p := p) with h | h
        · left; rw [List.all_eq_true]; intro a ha; obtain ⟨u, _, rfl⟩ := List.mem_map.mp ha; exact h u
        · right; rw [List.all_eq_true]; intro a ha; obtain ⟨u, _, rfl⟩ := List.mem_map.mp ha; exact h u
      · rw [List.all_eq_true]
        intro a ha
        obtain ⟨u, _, rfl⟩ := List.mem_map.mp ha
        exact decide_eq_true (Nat.le_trans (Sd.dp (e := e) u) hn)
    have hf : frzL (x.map e) = true := by
      have : frz (eL false e x) = true := Fz.fz x
      unfold eL at this
      rw [frz] at this
      exact this
    rw [toQL_map, Option.bind_some, if_pos ⟨hk, hf, by rw [List.length_map]; exact hl⟩]
    have hz : (x.map e).zip (x.map p) = x.map fun y => (e y, p y) := by
      clear hl hk hf
      induction x with
      | nil => rfl
      | cons y ys ih => simp [ih]
    have hs : srt ((x.map e).zip (x.map p)) = (x.mergeSort (PySem.W.dataLe false p)).map e := by
      rw [hz]
      unfold srt
      rw [← List.map_mergeSort (r := PySem.W.dataLe false p) (f := fun y => (e y, p y)) (l := x) (fun a _ b _ => rfl), List.map_map]
      rfl
    rw [hs]; rfl
  · cases h
end LI
/-! PQ: a for that gives away what it walks. -/
namespace LI
open PySem L2
section
variable {c : LC} {E : En} {P P1 : Hp} {S S1 T U1 : FP} {σ σ1 : L2.St} {H H1 : Hp} {ρ ρ1 : List D}
/-- as if entered here: what waits aside is none of it -/
def enOf (P H : Hp) (S : FP) (kp : List Bool) (σ : L2.St) (hk : ∀ i : Nat, kp[i]? = some true → ∃ v, σ[i]? = some (some v)) : En := ⟨P, H, S, kp, σ.map fun v => v.getD .non, fun i h => by
  obtain ⟨v, h2⟩ := hk i h
  exact ⟨v, by rw [List.getElem?_map, h2]; rfl⟩⟩
theorem Wd.frame (w : Wd c E P S T σ H ρ) (kp : List Bool) (hk : ∀ i : Nat, kp[i]? = some true → ∃ v, σ[i]? = some (some v)) : Wd c (enOf P H S kp σ hk) P S fz σ H ρ where
  env := w.env
  le := fun a => by have := w.le a; simp only [fz]; omega
  out := fun a h => w.out a (by simp only [fz] at h; omega)
  th := fun a h => by simp [fz] at h
  ph := w.ph
  p0 := .refl _
  fr := fun a o _ h => h
  np := fun a h => .inl h
  ns := fun a h => .inl (by simp only [fz] at h; exact h)
  kp := fun i v h1 h2 => by
    obtain ⟨v', h3⟩ := hk i h1
    have h2 : (σ.map fun v => v.getD .non)[i]? = some v := h2
    rw [List.getElem?_map, h3] at h2
    cases h2
    exact h3
theorem Wd.unframe (w : Wd c E P S T σ H ρ) {kp : List Bool} (hk : ∀ i : Nat, kp[i]? = some true → ∃ v, σ[i]? = some (some v)) (hE : ∀ i : Nat, E.kp[i]? = some true → kp[i]? = some true) (w1 : Wd c (enOf P H S kp σ hk) P1 S1 U1 σ1 H1 ρ1) : Wd c E P1 S1 (fa T U1) σ1 H1 ρ1 := by
  have hT : ∀ a, 0 < T a → S a = 0 ∧ ∃ o, H a = some o := fun a h => by
    have h1 := w.le a
    refine ⟨by omega, ?_⟩
    cases z : H a with
    | none => exact absurd z (w.th a h)
    | some o => exact ⟨o, rfl⟩
  have hn : ∀ a, 0 < T a → S1 a + U1 a = 0 := fun a h => by
    obtain ⟨h1, o, h2⟩ := hT a h
    rcases Nat.eq_zero_or_pos (S1 a + U1 a) with z | z
    · exact z
    · rcases w1.ns a z with q | q
      · have q : 0 < S a := q
        omega
      · have q : H a = none := q
        rw [h2] at q; cases q
  refine ⟨w1.env, fun a => ?_, fun a h => ?_, fun a h => ?_, w1.ph, w.p0.trans w1.p0, fun a o h1 h2 => ?_, fun a h => ?_, fun a h => ?_, fun i v h1 h2 => ?_⟩
  · by_cases z : 0 < T a
    · have := hn a z; have := w.le a; simp only [fa]; omega
    · have := w1.le a; simp only [fa]; omega
  · by_cases z : 0 < T a
    · obtain ⟨h1, o, h2⟩ := hT a z
      cases q : P1 a with
      | none => rfl
      | some o' =>
        rcases w1.np a (by rw [q]; simp) with r | r | r
        · have r : P a ≠ none := r
          exact absurd (w.out a (by omega)) r
        · have r : 0 < S a := r
          omega
        · have r : H a = none := r
          rw [h2] at r; cases r
    · exact w1.out a (by simp only [fa] at h; omega)
  · by_cases z : 0 < T a
    · obtain ⟨h1, o, h2⟩ := hT a z
      rw [w1.fr a o h1 h2]; simp
    · exact w1.th a (by simp only [fa] at h; omega)
  · have hH := w.fr a o h1 h2
    have hS : S a = 0 := by
      rcases Nat.eq_zero_or_pos (S a) with z | z
      · exact z
      · rcases w.ns a (by omega) with q | q
        · omega
        · rw [h2] at q; cases q
    exact w1.fr a o hS hH
  · rcases w1.np a h with r | r | r
    · exact w.np a r
    · have r : 0 < S a := r
      rcases w.ns a (by omega) with q | q
      · exact .inr (.inl q)
      · exact .inr (.inr q)
    · have r : H a = none := r
      cases q : E.H0 a with
      | none => exact .inr (.inr rfl)
      | some o =>
        by_cases hs : E.S0 a = 0
        · rw [w.fr a o hs q] at r; cases r
        · exact .inr (.inl (by omega))
  · by_cases z : 0 < T a
    · exact w.ns a (by omega)
    · rcases w1.ns a (by simp only [fa] at h; omega) with q | q
      · have q : 0 < S a := q
        exact w.ns a (by omega)
      · have q : H a = none := q
        cases r : E.H0 a with
        | none => exact .inr rfl
        | some o =>
          by_cases hs : E.S0 a = 0
          · rw [w.fr a o hs r] at q; cases q
          · exact .inl (by omega)
  · have h3 := w.kp i v h1 h2
    refine w1.kp i v (hE i h1) ?_
    show (σ.map fun v => v.getD .non)[i]? = some v
    rw [List.getElem?_map, h3]; rfl
theorem Wd.keep (w : Wd c E P S T σ H ρ) {kp : List Bool} {hk : ∀ i : Nat, kp[i]? = some true → ∃ v, σ[i]? = some (some v)} (w1 : Wd c (enOf P H S kp σ hk) P1 S1 U1 σ1 H1 ρ1) : ∀ a o, 0 < T a → H a = some o → H1 a = some o := fun a o h1 h2 => by
  have := w.le a
  exact w1.fr a o (by show S a = 0; omega) h2
end
/-! ### the loop -/
/-- the list that was walked: its parts are given away -/
def husk (n : Nat) : D := .lst true (List.replicate n .gone)
def forCE (i : Nat) (n : Nat) (r : Fl × List D) : Fl × List D := match r.1 with
  | .nx => (.nx, r.2.set i (husk n))
  | _ => r
def forCM (i : Nat) (f : TgM) (body : SM) (kl : List Nat) : SM := fun ρ => match ρ[i]? with
  | some (.lst true ds) => (forL f body (i :: kl) ds (ρ.set i .gone)).map (forCE i ds.length)
  | _ => none
theorem repL_husk {c : LC} {P H : Hp} : ∀ xs : List V, RepL c P H (List.replicate xs.length .gone) xs fz
  | [] => ⟨rfl, rfl⟩
  | x :: xs => ⟨x, xs, fz, fz, rfl, rfl, repL_husk xs, (fa_fz fz).symm⟩
def tIO (K : PySem.W.Frag) (i : Nat) : TI := fun σ H R => ∃ a, σ[i]? = some (some (.ref a)) ∧ (∃ xs, SqL K H a xs) ∧ R (Itl K a) H
def tSF (c : LC) (kp : List Bool) (body : SM) : TS := fun D σ H => ∃ E : En, E.kp = kp ∧ tS c E body D σ H
theorem forC_run {c : LC} {E : En} {kp : List Bool} {i0 : Nat} {tl kl : List Nat} {f : TgM} {body : SM} {D : Ends} {σ : L2.St} {H : Hp} (hkE : ∀ i : Nat, E.kp[i]? = some true → kp[i]? = some true) (hkS : ∀ i : Nat, kp[i]? = some true → i = i0 ∨ E.kp[i]? = some true) (hk0 : kp[i0]? = some true) (hi0 : i0 ∉ tl)
    (h : tS c E (forCM i0 f body kl) D σ H) : tFor (tIO c.K i0) (tPG c E tl f) (tSF c kp body) D σ H := by
  obtain ⟨P, S, ρ, fl, ρ', w, hm, q⟩ := h
  unfold forCM at hm
  split at hm
  · rename_i ds hρ
    cases hl : forL f body (i0 :: kl) ds (ρ.set i0 .gone) with
    | none => rw [hl] at hm; cases hm
    | some r =>
      rw [hl] at hm
      have hr : forCE i0 ds.length r = (fl, ρ') := Option.some.inj hm
      obtain ⟨v, Sd, R, hσ, hrep, hsum, hput⟩ := w.env.focus hρ rfl
      obtain ⟨a, xs, Tx, rfl, hH, hxs, hSd⟩ := hrep
      have hlen := hxs.length
      refine ⟨a, hσ, ⟨xs, .inl (.inl hH)⟩, ?_⟩
      have henv := hput P H .gone fz (.refl P) (fun _ _ _ h => h) rfl
      have hSa : ∀ b, S b = one a b + Tx b + R b := fun b => by have := hsum b; rw [this, hSd]; simp only [fa]
      have w0 : Wd c E P (fa fz R) (fa (one a) Tx) σ H (ρ.set i0 .gone) := by
        refine ⟨henv, fun b => ?_, fun b h => w.out b ?_, fun b h => ?_, w.ph, w.p0, w.fr, w.np, fun b h => w.ns b ?_, w.kp⟩
        · have := w.le b; have := hSa b; simp only [fa, fz] at *; omega
        · have := hSa b; simp only [fa, fz] at *; omega
        · by_cases z : b = a
          · rw [z, hH]; simp
          · exact RepL.there ds xs Tx hxs b (by simpa [fa, one, z] using h)
        · have := hSa b; simp only [fa, fz] at *; omega
      have fin : ∀ {P2 S2 σ2 H2 ρ2} {T2 : FP}, Wd c E P2 S2 T2 σ2 H2 ρ2 → (∀ b, one a b ≤ T2 b) → σ2[i0]? = some (some (.ref a)) → H2 a = some (.lst xs) → ∃ S3, Wd c E P2 S3 fz σ2 H2 (ρ2.set i0 (husk ds.length)) := by
        intro P2 S2 σ2 H2 ρ2 T2 w2 hT hσ2 hH2
        have hrep : Rep c P2 H2 (husk ds.length) (.ref a) (one a) := ⟨a, xs, fz, rfl, hH2, by rw [show ds.length = xs.length from hlen]; exact repL_husk xs, (fa_fz _).symm⟩
        obtain ⟨S3, h1, h2⟩ := RepE.set hrep i0 w2.env
        have e : σ2.set i0 (some (.ref a)) = σ2 := by
          refine List.ext_getElem? fun j => ?_
          by_cases z : i0 = j
          · subst z
            rw [List.getElem?_set_self (by exact (List.getElem?_eq_some_iff.mp hσ2).1), hσ2]
          · rw [List.getElem?_set_ne z]
        rw [e] at h1
        exact ⟨S3, w2.shrink h1 (fun b => by have := h2 b; have := hT b; simp only [fz]; omega) (fun _ => Nat.zero_le _) w2.kp⟩
      refine for_it (walk_list (xs := xs)) (fun i σi Hi => ∃ P2 S2 Tr ρi, Wd c E P2 S2 (fa (one a) Tr) σi Hi ρi ∧ Ex P P2 ∧ σi[i0]? = some (some (.ref a)) ∧ Hi a = some (.lst xs) ∧ RepL c P2 Hi (ds.drop i) (xs.drop i) Tr ∧ forL f body (i0 :: kl) (ds.drop i) ρi = some r) ?_ ?_ ?_ ?_
      · exact ⟨P, _, Tx, _, w0, .refl _, hσ, hH, hxs, hl⟩
      · rintro i σi Hi hi ⟨P2, S2, Tr, ρi, w2, e2, h1, h2, _⟩
        exact .inl (.inl h2)
      · rintro i x σi Hi H3 hi ⟨P2, S2, Tr, ρi, w2, e2, h1, h2, h3, hf⟩ ⟨rfl, hx⟩
        have hdl : i < ds.length := by rw [hlen]; exact hi
        rw [List.drop_eq_getElem_cons hdl] at hf h3
        obtain ⟨y, ys, U, W, e3, rd, rl, hU⟩ := h3
        rw [List.drop_eq_getElem_cons hi] at e3
        injection e3 with e4 e5
        have hxy : x = y := by
          rw [List.getElem?_eq_getElem hi] at hx
          exact (Option.some.inj hx).symm.trans e4
        subst hxy e5 hU
        unfold forL at hf
        cases ef : f ds[i] ρi with
        | none => rw [ef] at hf; cases hf
        | some ρ1 =>
          cases eb : body ρ1 with
          | none => rw [ef, Option.bind_some, eb] at hf; cases hf
          | some rr =>
            obtain ⟨f1, ρ2⟩ := rr
            rw [ef, Option.bind_some, eb, Option.bind_some] at hf
            have e6 : fa (one a) (fa U W) = fa (fa (one a) W) U := by rw [fa_assoc, fa_comm W U]
            rw [e6] at w2
            refine ⟨P2, S2, fa (one a) W, U, ρi, ds[i], ρ1, w2, rd, ef, fun σ4 S4 w4 l4 k4 => ?_⟩
            have hσ4 : σ4[i0]? = some (some (.ref a)) := (k4 i0 hi0).trans h1
            have hks : ∀ j : Nat, kp[j]? = some true → ∃ v, σ4[j]? = some (some v) := fun j hj => by
              rcases hkS j hj with rfl | hj
              · exact ⟨_, hσ4⟩
              · obtain ⟨v, hv⟩ := E.hv j hj
                exact ⟨v, w4.kp j v hj hv⟩
            refine ⟨enOf P2 H3 S4 kp σ4 hks, rfl, P2, S4, ρ1, f1, ρ2, w4.frame kp hks, eb, ?_⟩
            have back : ∀ {σ' H' P' S' U'}, Wd c (enOf P2 H3 S4 kp σ4 hks) P' S' U' σ' H' ρ2 → Wd c E P' S' (fa (fa (one a) W) U') σ' H' ρ2 ∧ σ'[i0]? = some (some (.ref a)) ∧ H' a = some (.lst xs) := by
              intro σ' H' P' S' U' w'
              refine ⟨w4.unframe hks hkE w', ?_, ?_⟩
              · refine w'.kp i0 (.ref a) hk0 ?_
                show (σ4.map fun v => v.getD .non)[i0]? = some (.ref a)
                rw [List.getElem?_map, hσ4]; rfl
              · exact w4.keep w' a _ (by simp [fa, one]; omega) h2
            have step : ∀ {σ' H' P' S'}, Wd c (enOf P2 H3 S4 kp σ4 hks) P' S' fz σ' H' ρ2 → Ex P2 P' → forL f body (i0 :: kl) (ds.drop (i + 1)) (goneAt ρ2 (i0 :: kl)) = some r → ∃ P3 S3 Tr ρi, Wd c E P3 S3 (fa (one a) Tr) σ' H' ρi ∧ Ex P P3 ∧ σ'[i0]? = some (some (.ref a)) ∧ H' a = some (.lst xs) ∧ RepL c P3 H' (ds.drop (i + 1)) (xs.drop (i + 1)) Tr ∧ forL f body (i0 :: kl) (ds.drop (i + 1)) ρi = some r := by
              intro σ' H' P' S' w' x' hf'
              obtain ⟨w5, b1, b2⟩ := back w'
              rw [fa_fz] at w5
              obtain ⟨S6, w6⟩ := w5.forget (i0 :: kl)
              exact ⟨P', S6, W, _, w6, e2.trans x', b1, b2, RepL.mono x' _ _ W (fun b o hb ho => w4.keep w' b o (by simp only [fa]; omega) ho) rl, hf'⟩
            cases f1 with
            | nx =>
              intro σ' H' P' S' w' x'
              exact step w' x' hf
            | ct =>
              intro σ' H' P' S' w' x'
              exact step w' x' hf
            | bk =>
              cases hf
              cases hr
              intro σ' H' P' S' w' x'
              obtain ⟨w5, b1, b2⟩ := back w'
              obtain ⟨S6, w6⟩ := w5.forget (i0 :: kl)
              obtain ⟨S7, w7⟩ := fin w6 (fun b => by simp only [fa]; omega) b1 b2
              exact q σ' H' P' S7 w7 (e2.trans x')
            | rt d' =>
              cases hf
              cases hr
              intro v σ' H' P' S' U' w' rep
              obtain ⟨w5, _, _⟩ := back w'
              exact q v σ' H' P' S' U' (w5.shrink w5.env (fun b => by simp only [fa]; omega) (fun b => by simp only [fa]; omega) w5.kp) rep
      · rintro σi Hi ⟨P2, S2, Tr, ρi, w2, e2, h1, h2, h3, hf⟩
        rw [show ds.drop xs.length = [] from List.drop_eq_nil_of_le (by rw [hlen]; exact Nat.le_refl _)] at hf
        cases hf
        cases hr
        obtain ⟨S7, w7⟩ := fin w2 (fun b => by simp only [fa]; omega) h1 h2
        exact q σi Hi P2 S7 w7 e2
  · cases hm
theorem kpE {kp kp' : List Bool} (h : ((List.range kp.length).all fun i => kp[i]? != some true || kp'[i]? == some true) = true) (i : Nat) (hi : kp[i]? = some true) : kp'[i]? = some true := by
  have hl : i < kp.length := (List.getElem?_eq_some_iff.mp hi).1
  have := List.all_eq_true.mp h i (List.mem_range.mpr hl)
  simpa [hi] using this
theorem kpS {kp kp' : List Bool} {i0 : Nat} (h : ((List.range kp'.length).all fun i => kp'[i]? != some true || (i == i0 || kp[i]? == some true)) = true) (i : Nat) (hi : kp'[i]? = some true) : i = i0 ∨ kp[i]? = some true := by
  have hl : i < kp'.length := (List.getElem?_eq_some_iff.mp hi).1
  have := List.all_eq_true.mp h i (List.mem_range.mpr hl)
  simpa [hi] using this
section
variable {X : Cx} {cl : Nat → Addr} {E : En} {tg : Expr} {pos p : Pos} {x : Str}
theorem i_own (i : Nat) (hN : X.N[i]? = some x := by rfl) (hv : Vis X.env.scope x := by first | exact Or.inl rfl | exact Or.inr (Or.inl rfl) | exact Or.inr (Or.inr rfl)) (hd : (x == ("__debug__" : Str)) = false := by decide)
    (hcd : (x == ("__classdict__" : Str)) = false := by decide) : PI X tg (.Name x p) (tIO X.K i) := PI_imp (pi_list (pe_var hN hv hd hcd)) fun σ H R ⟨a, h1, h2, h3⟩ => ⟨.ref a, h1, a, rfl, h2, h3⟩
theorem s_forC (i0 : Nat) (kp : List Bool) {sb : List Stmt} {tl : List Nat} (kl : List Nat) {f : TgM} {body : SM} (hp : PassesOwn (model X.prog X.w) X.A X.env X.xe) (hc : X.calm = true) (hkE : ∀ i : Nat, E.kp[i]? = some true → kp[i]? = some true) (hkS : ∀ i : Nat, kp[i]? = some true → i = i0 ∨ E.kp[i]? = some true) (hk0 : kp[i0]? = some true) (hi0 : i0 ∉ tl)
    (hg : PG X tg (tPG ⟨X.K, cl⟩ E tl f)) (hb : ∀ E : En, E.kp = kp → PSs X sb (tS ⟨X.K, cl⟩ E body))
    (hN : X.N[i0]? = some x := by rfl) (hv : Vis X.env.scope x := by first | exact Or.inl rfl | exact Or.inr (Or.inl rfl) | exact Or.inr (Or.inr rfl)) (hd : (x == ("__debug__" : Str)) = false := by decide)
    (hcd : (x == ("__classdict__" : Str)) = false := by decide) (hs : ∀ y, foldedSetIterable (.Name x p) X.env y = pure y := by intro _; rfl) : PS X (.For tg (.Name x p) sb [] pos) (tS ⟨X.K, cl⟩ E (forCM i0 f body kl)) :=
  PS_imp (ps_for hp hc (i_own i0 hN hv hd hcd) hg ⟨fun pins s σ H D I ⟨E', h1, h2⟩ => (hb E' h1).run pins s σ H D I h2⟩ hs) fun _ _ _ h => forC_run hkE hkS hk0 hi0 h
end
end LI
/-! PR: tuples of owned parts; giving away, lifted. -/
namespace LI
open PySem L2
def tupO (ms : AGM) : GM := fun ρ => (ms ρ).bind fun s => if s.1.length ≤ LIM then some (.tup s.1, s.2) else none
section
variable {X : Cx} {cl : Nat → Addr} {E : En} {es : List Expr} {pos : Pos} {ms : AGM}
theorem g_tupO {x1} (h : PA X es (tAO ⟨X.K, cl⟩ E ms)) : PE X (.Tuple es x1 pos) (tG ⟨X.K, cl⟩ E (tupO ms)) := PE_imp (pe_tup h) fun σ H Q ⟨P, S, T, ρ, d, ρ', w, hm, q⟩ => by
  unfold tupO at hm
  cases e1 : ms ρ with
  | none => rw [e1] at hm; cases hm
  | some s =>
    obtain ⟨ds, ρ1⟩ := s
    rw [e1, Option.bind_some] at hm
    dsimp only at hm
    split at hm
    · rename_i hl
      cases hm
      refine ⟨P, S, T, ρ, ds, _, w, e1, fun vs H1 P1 S1 U w1 x1 r1 k1 => ⟨by rw [← r1.length]; exact lim_le hl, fun p hp => ?_⟩⟩
      have hP : P1 p = none := none_of w1.ph hp
      have g2 : Gr P1 H1 (upd P1 p (.tup vs)) (upd H1 p (.tup vs)) := ⟨ex_new hP, ex_new hp, fun a o z => by
        by_cases q : a = p
        · subst q; rw [upd_same] at z ⊢; exact z
        · rw [upd_ne q] at z ⊢; exact w1.ph a o z, fun a z => by
        by_cases q : a = p
        · subst q; exact .inr hp
        · rw [upd_ne q] at z; exact .inl z⟩
      have w2 := w1.grow g2
      exact q (.ref p) _ _ S1 U w2 (x1.trans (ex_new hP)) ⟨p, vs, rfl, .inl (.inl upd_same), RepL.mono (ex_new hP) ds vs U (fun a o z h => ex_new hp _ _ h) r1⟩ fun a o z1 z2 => ex_new hp _ _ (k1 a o z1 z2)
    · cases hm
end
/-- what is new, emptied and let go -/
def clearG (g : GM) : GM := fun ρ => (g ρ).bind fun r => match r.1 with
  | .lst true _ => some (.non, r.2)
  | _ => none
theorem aside_upd {c : LC} {E : En} {P : Hp} {S T U : FP} {σ : L2.St} {H : Hp} {ρ : List D} (w : Wd c E P S (fa T U) σ H ρ) {a : Addr} {o : HO} (ha : 0 < U a) : Wd c E P S T σ (upd H a o) ρ ∧ ∀ b u, 0 < T b → H b = some u → upd H a o b = some u := by
  have h1 := w.le a
  have hS : ∀ b, 0 < S b → b ≠ a := fun b h e => by subst e; simp only [fa] at h1; omega
  have hT : ∀ b, 0 < T b → b ≠ a := fun b h e => by subst e; simp only [fa] at h1; omega
  refine ⟨⟨RepE.mono (.refl P) ρ σ S (fun b u h k => by rw [upd_ne (hS b h)]; exact k) w.env, fun b => ?_, fun b h => w.out b (by simp only [fa]; omega), fun b h => ?_, fun b u h => ?_, w.p0, fun b u k1 k2 => ?_, fun b h => w.np b h, fun b h => w.ns b (by simp only [fa]; omega), w.kp⟩, fun b u h k => by rw [upd_ne (hT b h)]; exact k⟩
  · have := w.le b; simp only [fa] at this; omega
  · rw [upd_ne (hT b h)]; exact w.th b (by simp only [fa]; omega)
  · have hb : b ≠ a := fun e => by
      subst e
      have := w.out b (by simp only [fa]; omega)
      rw [h] at this; cases this
    rw [upd_ne hb]; exact w.ph b u h
  · have hb : b ≠ a := fun e => by
      subst e
      rcases w.ns b (by simp only [fa]; omega) with q | q
      · omega
      · rw [k2] at q; cases q
    rw [upd_ne hb]; exact w.fr b u k1 k2
section
variable {X : Cx} {cl : Nat → Addr} {E : En} {o : Expr} {pos apos : Pos} {g : GM}
theorem g_clearN (he : PE X o (tG ⟨X.K, cl⟩ E g)) (hbase : attributeBase o "clear" X.env (eval o X.env) = eval o X.env := by rfl) (hline : (apos.endLine == pos.line) = true := by rfl) : PE X (.Call (.Attribute o "clear" apos) [] [] pos) (tG ⟨X.K, cl⟩ E (clearG g)) :=
  PE_imp (pe_bm0 PySem.F.plainAttrs_list PySem.F.slot_list_clear PySem.F.type_list_clear mt_clear he hbase hline) fun σ H Q ⟨P, S, T, ρ, d, ρ', w, hm, q⟩ => by
    unfold clearG at hm
    cases e1 : g ρ with
    | none => rw [e1] at hm; cases hm
    | some r =>
      obtain ⟨d1, ρ1⟩ := r
      rw [e1, Option.bind_some] at hm
      dsimp only at hm
      split at hm
      · cases hm
        refine ⟨P, S, T, ρ, _, _, w, e1, fun v H1 P1 S1 U w1 x1 r1 k1 => ?_⟩
        obtain ⟨a, xs, Tx, rfl, hH, hxs, hU⟩ := r1
        obtain ⟨w2, k2⟩ := aside_upd w1 (a := a) (o := .lst []) (by rw [hU]; simp [fa, one]; omega)
        refine ⟨.inl ⟨rfl, xs, .inl (.inl hH)⟩, a, xs, rfl, rfl, hH, ?_⟩
        exact q .non _ P1 S1 fz (by rw [fa_fz]; exact w2) x1 ⟨rfl, rfl⟩ fun b u z1 z2 => k2 b u z1 (k1 b u z1 z2)
      · cases hm
end
/-! ### lifted -/
def eGn (_ : Unit) : D := .gone
instance : Fz eGn := ⟨fun _ => rfl⟩
instance : Ng (eL true eGn) := ⟨fun _ => rfl⟩
theorem husk_eq (n : Nat) : husk n = eL true eGn (List.replicate n ()) := by
  unfold husk eL
  rw [List.map_replicate]; rfl
section
variable {α β σ τ : Type} {Q : Fl → List D → τ → Prop} {e : α → D} {r body : SM} {ρ : List D} {k : σ → Option τ} {f : TgM} {kl : List Nat}
theorem eg_tupO {ms : AGM} {et env : τ → List D} {o : Option τ} {f : β → D} (k : τ → β) (h : Eao et env ms ρ o) (hk : ∀ x, f (k x) = .tup (et x)) (hl : ∀ x, (et x).length ≤ LIM) : Eg (fun p : β × τ => f p.1) (fun p => env p.2) (tupO ms) ρ (o.bind fun x => some (k x, x)) := fun p hp => by
  obtain ⟨x, h3, h4⟩ := ob_some hp
  cases h4
  unfold tupO
  rw [h x h3, Option.bind_some]
  show (if (et x).length ≤ LIM then _ else none) = _
  rw [if_pos (hl x)]
  dsimp only
  rw [hk]
theorem eg_clearN {g : GM} {env : τ → List D} {o : Option τ} {a : α → D} (ev : τ → List α) (h : Eg (fun r => eL true a (ev r)) env g ρ o) : Eg (fun _ : τ => .non) env (clearG g) ρ o := fun p hp => by
  unfold clearG
  rw [h p hp]; rfl
theorem forCM_at {i0 : Nat} {ds : List D} (h : ρ[i0]? = some (.lst true ds)) : forCM i0 f body kl ρ = (forL f body (i0 :: kl) ds (ρ.set i0 .gone)).map (forCE i0 ds.length) := by unfold forCM; rw [h]
theorem b_forC (i0 : Nat) (xs : List α) (env : σ → List D) (s0 : σ) (env1 : σ → α → List D) (env2 : σ → List D) {g : σ → α → Option σ} (hρ : ρ[i0]? = some (eL true e xs)) (hρ0 : ρ.set i0 .gone = env s0) (hf : ∀ s x, f (e x) (env s) = some (env1 s x)) (hb : ∀ s x, Bk (Ql (i0 :: kl) env) body (env1 s x) (g s x)) (h2 : ∀ s, (env s).set i0 (eL true eGn (List.replicate xs.length ())) = env2 s) (hr : ∀ s, Bk Q r (env2 s) (k s)) :
    Bk Q (seqM (forCM i0 f body kl) r) ρ ((foldT g xs s0).bind k) := fun t ht => by
  obtain ⟨s, h3, h4⟩ := ob_some ht
  obtain ⟨fl, ρ', h5, h6⟩ := hr s t h4
  refine ⟨fl, ρ', ?_, h6⟩
  have hm : forCM i0 f body kl ρ = some (.nx, env2 s) := by
    rw [forCM_at hρ, hρ0, for_fold1 env env1 hf hb xs s0 s h3, Option.map_some]
    unfold forCE
    rw [List.length_map, husk_eq, h2]
  unfold seqM
  rw [hm]
  exact h5
theorem b_forCR (i0 : Nat) (xs : List α) (env : σ → List D) (s0 : σ) (env1 : σ → α → List D) (env2 : σ → List D) {g : σ → α → Option (St σ τ)} (hρ : ρ[i0]? = some (eL true e xs)) (hρ0 : ρ.set i0 .gone = env s0) (hf : ∀ s x, f (e x) (env s) = some (env1 s x)) (hb : ∀ s x, Bk (Qs (i0 :: kl) env Q) body (env1 s x) (g s x)) (h2 : ∀ s, (env s).set i0 (eL true eGn (List.replicate xs.length ())) = env2 s) (hr : ∀ s, Bk Q r (env2 s) (k s)) :
    Bk Q (seqM (forCM i0 f body kl) r) ρ ((forT g xs s0).bind fun u => seqT u k) := fun t ht => by
  obtain ⟨u, h3, h4⟩ := ob_some ht
  obtain ⟨f2, ρ2, h7, h8⟩ := for_step1 env env1 hf hb xs s0 u h3
  unfold seqM
  rw [forCM_at hρ, hρ0, h7, Option.map_some]
  cases u with
  | inl s =>
    obtain ⟨rfl, rfl⟩ := h8
    unfold forCE
    rw [List.length_map, husk_eq, h2]
    exact hr s t h4
  | inr t2 =>
    cases h4
    cases f2 with
    | rt d => exact ⟨_, _, rfl, h8.2⟩
    | _ => cases h8.1
end
end LI
/-! PS: a for over a zip that gives away what its first list holds. -/
namespace LI
open PySem L2
def forCZM (i : Nat) (f : TgM) (body : SM) (kl : List Nat) (mb : RM) : SM := fun ρ => match ρ[i]? with
  | some (.lst true ds) => (mb ρ).bind fun d2 => (lstD d2).bind fun es => (forL f body (i :: kl) (zipD ds es) (ρ.set i .gone)).map (forCE i ds.length)
  | _ => none
def tIOZ (c : LC) (E : En) (i : Nat) (mb : RM) : TI := fun σ H R => ∃ P S T ρ d2 es, Wd c E P S T σ H ρ ∧ mb ρ = some d2 ∧ lstD d2 = some es ∧ ∃ a xs, σ[i]? = some (some (.ref a)) ∧ H a = some (.lst xs) ∧
  ∀ H' P' b ys, Gr P H P' H' → SqL c.K P' b ys → (∀ H2, RepL c P' H2 es ys fz) → R (Itz c.K a b) H'
theorem pair_own {c : LC} {P H H3 : Hp} {T : Addr} {x y : V} {d1 d2 : D} {U : FP} (ph : Ex P H) (hT : H T = none) (e : H3 = upd H T (.tup [x, y])) (r1 : Rep c P H d1 x U) (r2 : Rep c P H d2 y fz) (hU : ∀ a, 0 < U a → H a ≠ none) : ∃ P3, Gr P H P3 H3 ∧ Rep c P3 H3 (.tup [d1, d2]) (.ref T) U := by
  subst e
  have hP := none_of ph hT
  have eP : Ex P (upd P T (.tup [x, y])) := fun a o z => by rw [upd_ne (ne_of_none z hP)]; exact z
  have eH : Ex H (upd H T (.tup [x, y])) := fun a o z => by rw [upd_ne (ne_of_none z hT)]; exact z
  refine ⟨upd P T (.tup [x, y]), ⟨eP, eH, fun a o z => ?_, fun a z => ?_⟩, T, [x, y], rfl, .inl (.inl upd_same), x, [y], U, fz, rfl, ?_, ⟨y, [], fz, fz, rfl, ?_, ⟨rfl, rfl⟩, (fa_fz fz).symm⟩, (fa_fz U).symm⟩
  · by_cases q : a = T
    · subst q; rw [upd_same] at z ⊢; exact z
    · rw [upd_ne q] at z ⊢; exact ph a o z
  · by_cases q : a = T
    · subst q; exact .inr hT
    · rw [upd_ne q] at z; exact .inl z
  · exact Rep.mono eP d1 x U (fun a o _ h => eH a o h) r1
  · exact Rep.mono eP d2 y fz (fun a o z _ => by simp [fz] at z) r2
theorem zipD_drop {ds es : List D} {i : Nat} {d e : D} (h1 : ds[i]? = some d) (h2 : es[i]? = some e) : (zipD ds es).drop i = .tup [d, e] :: (zipD ds es).drop (i + 1) := by
  have h := zipD_get ds es i d e h1 h2
  obtain ⟨hl, e1⟩ := List.getElem?_eq_some_iff.mp h
  rw [List.drop_eq_getElem_cons hl, e1]
theorem forCZ_run {c : LC} {E : En} {kp : List Bool} {i0 : Nat} {tl kl : List Nat} {f : TgM} {body : SM} {mb : RM} {D : Ends} {σ : L2.St} {H : Hp} (hkE : ∀ i : Nat, E.kp[i]? = some true → kp[i]? = some true) (hkS : ∀ i : Nat, kp[i]? = some true → i = i0 ∨ E.kp[i]? = some true) (hk0 : kp[i0]? = some true) (hi0 : i0 ∉ tl)
    (h : tS c E (forCZM i0 f body kl mb) D σ H) : tFor (tIOZ c E i0 mb) (tPG c E tl f) (tSF c kp body) D σ H := by
  obtain ⟨P, S, ρ, fl, ρ', w, hm, q⟩ := h
  unfold forCZM at hm
  split at hm
  · rename_i ds hρ
    cases hmb : mb ρ with
    | none => rw [hmb] at hm; cases hm
    | some d2 =>
      rw [hmb, Option.bind_some] at hm
      cases hes : lstD d2 with
      | none => rw [hes] at hm; cases hm
      | some es =>
        rw [hes, Option.bind_some] at hm
        cases hl : forL f body (i0 :: kl) (zipD ds es) (ρ.set i0 .gone) with
        | none => rw [hl] at hm; cases hm
        | some r =>
          rw [hl] at hm
          have hr : forCE i0 ds.length r = (fl, ρ') := Option.some.inj hm
          obtain ⟨v, Sd, R, hσ, hrep, hsum, hput⟩ := w.env.focus hρ rfl
          obtain ⟨a, xs, Tx, rfl, hH, hxs, hSd⟩ := hrep
          have hlen := hxs.length
          refine ⟨P, S, fz, ρ, d2, es, w, hmb, hes, a, xs, hσ, hH, fun H1 P1 b ys g1 hys hrl => ?_⟩
          have henv := hput P H .gone fz (.refl P) (fun _ _ _ h => h) rfl
          have hSa : ∀ b, S b = one a b + Tx b + R b := fun b => by have := hsum b; rw [this, hSd]; simp only [fa]
          have w00 : Wd c E P (fa fz R) (fa (one a) Tx) σ H (ρ.set i0 .gone) := by
            refine ⟨henv, fun b => ?_, fun b h => w.out b ?_, fun b h => ?_, w.ph, w.p0, w.fr, w.np, fun b h => w.ns b ?_, w.kp⟩
            · have := w.le b; have := hSa b; simp only [fa, fz] at *; omega
            · have := hSa b; simp only [fa, fz] at *; omega
            · by_cases z : b = a
              · rw [z, hH]; simp
              · exact RepL.there ds xs Tx hxs b (by simpa [fa, one, z] using h)
            · have := hSa b; simp only [fa, fz] at *; omega
          have w0 := w00.grow g1
          have hH1 := g1.h _ _ hH
          have hxs1 : RepL c P1 H1 ds xs Tx := RepL.mono g1.p ds xs Tx (fun a o _ h => g1.h a o h) hxs
          have fin : ∀ {P2 S2 σ2 H2 ρ2} {T2 : FP}, Wd c E P2 S2 T2 σ2 H2 ρ2 → (∀ b, one a b ≤ T2 b) → σ2[i0]? = some (some (.ref a)) → H2 a = some (.lst xs) → ∃ S3, Wd c E P2 S3 fz σ2 H2 (ρ2.set i0 (husk ds.length)) := by
            intro P2 S2 σ2 H2 ρ2 T2 w2 hT hσ2 hH2
            have hrep : Rep c P2 H2 (husk ds.length) (.ref a) (one a) := ⟨a, xs, fz, rfl, hH2, by rw [show ds.length = xs.length from hlen]; exact repL_husk xs, (fa_fz _).symm⟩
            obtain ⟨S3, h1, h2⟩ := RepE.set hrep i0 w2.env
            have e : σ2.set i0 (some (.ref a)) = σ2 := by
              refine List.ext_getElem? fun j => ?_
              by_cases z : i0 = j
              · subst z
                rw [List.getElem?_set_self (by exact (List.getElem?_eq_some_iff.mp hσ2).1), hσ2]
              · rw [List.getElem?_set_ne z]
            rw [e] at h1
            exact ⟨S3, w2.shrink h1 (fun b => by have := h2 b; have := hT b; simp only [fz]; omega) (fun _ => Nat.zero_le _) w2.kp⟩
          refine for_it (walk_zip (xs := xs) (ys := ys) rfl) (fun i σi Hi => ∃ P2 S2 Tr ρi, Wd c E P2 S2 (fa (one a) Tr) σi Hi ρi ∧ Ex P1 P2 ∧ σi[i0]? = some (some (.ref a)) ∧ Hi a = some (.lst xs) ∧ RepL c P2 Hi (ds.drop i) (xs.drop i) Tr ∧ forL f body (i0 :: kl) ((zipD ds es).drop i) ρi = some r) ?_ ?_ ?_ ?_
          · exact ⟨P1, _, Tx, _, w0, .refl _, hσ, hH1, hxs1, hl⟩
          · rintro i σi Hi hi ⟨P2, S2, Tr, ρi, w2, e2, h1, h2, _⟩
            exact ⟨.inl (.inl h2), sql_mono w2.ph (sql_mono e2 hys)⟩
          · rintro i x σi Hi H3 hi ⟨P2, S2, Tr, ρi, w2, e2, h1, h2, h3, hf⟩ ⟨Tt, x1, y1, ev, hTn, hH3, hx1, hy1⟩
            obtain ⟨hix, ex1⟩ := List.getElem?_eq_some_iff.mp hx1
            have hdl : i < ds.length := by rw [hlen]; exact hix
            obtain ⟨e1, he1, re1⟩ := rep_get0 (hrl Hi) hy1
            have hde : ds[i]? = some ds[i] := List.getElem?_eq_getElem hdl
            rw [zipD_drop hde he1] at hf
            rw [List.drop_eq_getElem_cons hdl] at h3
            obtain ⟨y, ys', U, W, e3, rd, rl, hU⟩ := h3
            rw [List.drop_eq_getElem_cons hix] at e3
            injection e3 with e4 e5
            have hxy : x1 = y := ex1.symm.trans e4
            subst hxy e5 hU
            have hUn : ∀ b, 0 < U b → Hi b ≠ none := fun b hb => w2.th b (by simp only [fa]; omega)
            obtain ⟨P3, g3, r3⟩ := pair_own (c := c) w2.ph hTn hH3 rd (Rep.mono e2 e1 y1 fz (fun a o z _ => by simp [fz] at z) re1) hUn
            have h2' := g3.h _ _ h2
            have rl' : RepL c P3 H3 (ds.drop (i + 1)) (xs.drop (i + 1)) W := RepL.mono g3.p _ _ W (fun a o _ h => g3.h a o h) rl
            subst ev
            unfold forL at hf
            cases ef : f (.tup [ds[i], e1]) ρi with
            | none => rw [ef] at hf; cases hf
            | some ρ1 =>
              cases eb : body ρ1 with
              | none => rw [ef, Option.bind_some, eb] at hf; cases hf
              | some rr =>
                obtain ⟨f1, ρ2⟩ := rr
                rw [ef, Option.bind_some, eb, Option.bind_some] at hf
                have w3 := w2.grow g3
                have e6 : fa (one a) (fa U W) = fa (fa (one a) W) U := by rw [fa_assoc, fa_comm W U]
                rw [e6] at w3
                refine ⟨P3, S2, fa (one a) W, U, ρi, .tup [ds[i], e1], ρ1, w3, r3, ef, fun σ4 S4 w4 l4 k4 => ?_⟩
                have hσ4 : σ4[i0]? = some (some (.ref a)) := (k4 i0 hi0).trans h1
                have hks : ∀ j : Nat, kp[j]? = some true → ∃ v, σ4[j]? = some (some v) := fun j hj => by
                  rcases hkS j hj with rfl | hj
                  · exact ⟨_, hσ4⟩
                  · obtain ⟨v, hv⟩ := E.hv j hj
                    exact ⟨v, w4.kp j v hj hv⟩
                refine ⟨enOf P3 H3 S4 kp σ4 hks, rfl, P3, S4, ρ1, f1, ρ2, w4.frame kp hks, eb, ?_⟩
                have back : ∀ {σ' H' P' S' U'}, Wd c (enOf P3 H3 S4 kp σ4 hks) P' S' U' σ' H' ρ2 → Wd c E P' S' (fa (fa (one a) W) U') σ' H' ρ2 ∧ σ'[i0]? = some (some (.ref a)) ∧ H' a = some (.lst xs) := by
                  intro σ' H' P' S' U' w'
                  refine ⟨w4.unframe hks hkE w', ?_, ?_⟩
                  · refine w'.kp i0 (.ref a) hk0 ?_
                    show (σ4.map fun v => v.getD .non)[i0]? = some (.ref a)
                    rw [List.getElem?_map, hσ4]; rfl
                  · exact w4.keep w' a _ (by simp [fa, one]; omega) h2'
                have step : ∀ {σ' H' P' S'}, Wd c (enOf P3 H3 S4 kp σ4 hks) P' S' fz σ' H' ρ2 → Ex P3 P' → forL f body (i0 :: kl) ((zipD ds es).drop (i + 1)) (goneAt ρ2 (i0 :: kl)) = some r → ∃ P2 S3 Tr ρi, Wd c E P2 S3 (fa (one a) Tr) σ' H' ρi ∧ Ex P1 P2 ∧ σ'[i0]? = some (some (.ref a)) ∧ H' a = some (.lst xs) ∧ RepL c P2 H' (ds.drop (i + 1)) (xs.drop (i + 1)) Tr ∧ forL f body (i0 :: kl) ((zipD ds es).drop (i + 1)) ρi = some r := by
                  intro σ' H' P' S' w' x' hf'
                  obtain ⟨w5, b1, b2⟩ := back w'
                  rw [fa_fz] at w5
                  obtain ⟨S6, w6⟩ := w5.forget (i0 :: kl)
                  exact ⟨P', S6, W, _, w6, (e2.trans g3.p).trans x', b1, b2, RepL.mono x' _ _ W (fun b o hb ho => w4.keep w' b o (by simp only [fa]; omega) ho) rl', hf'⟩
                cases f1 with
                | nx =>
                  intro σ' H' P' S' w' x'
                  exact step w' x' hf
                | ct =>
                  intro σ' H' P' S' w' x'
                  exact step w' x' hf
                | bk =>
                  cases hf
                  cases hr
                  intro σ' H' P' S' w' x'
                  obtain ⟨w5, b1, b2⟩ := back w'
                  obtain ⟨S6, w6⟩ := w5.forget (i0 :: kl)
                  obtain ⟨S7, w7⟩ := fin w6 (fun b => by simp only [fa]; omega) b1 b2
                  exact q σ' H' P' S7 w7 (((g1.p.trans e2).trans g3.p).trans x')
                | rt d' =>
                  cases hf
                  cases hr
                  intro v σ' H' P' S' U' w' rep
                  obtain ⟨w5, _, _⟩ := back w'
                  exact q v σ' H' P' S' U' (w5.shrink w5.env (fun b => by simp only [fa]; omega) (fun b => by simp only [fa]; omega) w5.kp) rep
          · rintro σi Hi ⟨P2, S2, Tr, ρi, w2, e2, h1, h2, h3, hf⟩
            have hyl := (hrl Hi).length
            rw [List.drop_eq_nil_of_le (by rw [zipD_len, hlen, hyl]; exact Nat.le_refl _)] at hf
            cases hf
            cases hr
            obtain ⟨S7, w7⟩ := fin w2 (fun b => by simp only [fa]; omega) h1 h2
            exact q σi Hi P2 S7 w7 (g1.p.trans e2)
  · cases hm
section
variable {X : Cx} {cl : Nat → Addr} {E : En} {tg e2 : Expr} {pos p p2 tpos : Pos} {x : Str} {elts : List Expr} {kk : Nat} {m2 : RM}
theorem i_ownZ (i : Nat) (hg : Gl X "zip") (hm : X.mg "zip" = none) (h2 : PE X e2 (tR ⟨X.K, cl⟩ E m2)) (hN : X.N[i]? = some x := by rfl) (hv : Vis X.env.scope x := by first | exact Or.inl rfl | exact Or.inr (Or.inl rfl) | exact Or.inr (Or.inr rfl)) (hd : (x == ("__debug__" : Str)) = false := by decide)
    (hcd : (x == ("__classdict__" : Str)) = false := by decide)
    (hs : starEach [.Name x p2, e2] X.env = (false, eval (.Name x p2) X.env) :: starEach [e2] X.env := by rfl) (hpl : (backTo pos (starEach [e2] X.env)).any (·.1) = false := by rfl) (hs2 : starEach [e2] X.env = (false, eval e2 X.env) :: starEach [] X.env := by rfl) :
    PI X (.Tuple elts kk tpos) (.Call (.Name "zip" p) [.Name x p2, e2] [] pos) (tIOZ ⟨X.K, cl⟩ E i m2) := PI_imp (pi_zip hg hm (pa_cons (pe_var hN hv hd hcd) (pa_cons h2 pa_nil hs2) hs) hs hpl) fun σ H R ⟨P, S, T, ρ, d2, es, w, hmb, hes, a, xs, hσ, hH, q⟩ => by
  refine ⟨.ref a, hσ, P, S, T, ρ, d2, w, hmb, fun v H1 P1 U1 g1 r1 => ?_⟩
  obtain ⟨b, ys, e1, hb, rl⟩ := lst_sq hes r1
  exact ⟨a, b, xs, ys, by rw [e1], .inl (.inl (g1.h _ _ hH)), sql_mono g1.ph hb, q H1 P1 b ys g1 hb rl⟩
theorem s_forCZ (i0 : Nat) (kp : List Bool) {sb : List Stmt} {tl : List Nat} (kl : List Nat) {f : TgM} {body : SM} (hp : PassesOwn (model X.prog X.w) X.A X.env X.xe) (hc : X.calm = true) (hkE : ∀ i : Nat, E.kp[i]? = some true → kp[i]? = some true) (hkS : ∀ i : Nat, kp[i]? = some true → i = i0 ∨ E.kp[i]? = some true) (hk0 : kp[i0]? = some true) (hi0 : i0 ∉ tl)
    (hm : X.mg "zip" = none) (h2 : PE X e2 (tR ⟨X.K, cl⟩ E m2)) (hg : PG X (.Tuple elts kk tpos) (tPG ⟨X.K, cl⟩ E tl f)) (hb : ∀ E : En, E.kp = kp → PSs X sb (tS ⟨X.K, cl⟩ E body))
    (hgl : Gl X "zip" := by rfl) (hN : X.N[i0]? = some x := by rfl) (hv : Vis X.env.scope x := by first | exact Or.inl rfl | exact Or.inr (Or.inl rfl) | exact Or.inr (Or.inr rfl)) (hd : (x == ("__debug__" : Str)) = false := by decide)
    (hcd : (x == ("__classdict__" : Str)) = false := by decide)
    (hs1 : starEach [.Name x p2, e2] X.env = (false, eval (.Name x p2) X.env) :: starEach [e2] X.env := by rfl) (hpl : (backTo pos (starEach [e2] X.env)).any (·.1) = false := by rfl) (hs2 : starEach [e2] X.env = (false, eval e2 X.env) :: starEach [] X.env := by rfl)
    (hs : ∀ y, foldedSetIterable (.Call (.Name "zip" p) [.Name x p2, e2] [] pos) X.env y = pure y := by intro _; rfl) {fpos : Pos} : PS X (.For (.Tuple elts kk tpos) (.Call (.Name "zip" p) [.Name x p2, e2] [] pos) sb [] fpos) (tS ⟨X.K, cl⟩ E (forCZM i0 f body kl m2)) :=
  PS_imp (ps_for hp hc (i_ownZ i0 hgl hm h2 hN hv hd hcd hs1 hpl hs2) hg ⟨fun pins s σ H D I ⟨E', h1, h2⟩ => (hb E' h1).run pins s σ H D I h2⟩ hs) fun _ _ _ h => forCZ_run hkE hkS hk0 hi0 h
end
/-! ### lifted -/
section
variable {α β σ τ : Type} {Q : Fl → List D → τ → Prop} {e : α → D} {e2 : β → D} {r body : SM} {ρ : List D} {k : σ → Option τ} {f : TgM} {kl : List Nat} {mb : RM}
theorem zipD_map : ∀ (xs : List α) (ys : List β), zipD (xs.map e) (ys.map e2) = (xs.zip ys).map fun t => D.tup [e t.1, e2 t.2]
  | [], _ => by simp [zipD]
  | _ :: _, [] => by simp [zipD]
  | x :: xs, y :: ys => by
    simp only [List.map_cons, zipD, List.zip_cons_cons, zipD_map xs ys]
theorem forCZM_at {i0 : Nat} {ds es : List D} {d2 : D} (h : ρ[i0]? = some (.lst true ds)) (h2 : mb ρ = some d2) (h3 : lstD d2 = some es) : forCZM i0 f body kl mb ρ = (forL f body (i0 :: kl) (zipD ds es) (ρ.set i0 .gone)).map (forCE i0 ds.length) := by
  unfold forCZM; rw [h]; dsimp only; rw [h2, Option.bind_some, h3, Option.bind_some]
theorem b_forCZR [Fz e2] (i0 : Nat) (xs : List α) (ys : List β) (env : σ → List D) (s0 : σ) (env1 : σ → α × β → List D) (env2 : σ → List D) {g : σ → α × β → Option (St σ τ)} (hρ : ρ[i0]? = some (eL true e xs)) (hys : Ev (eL false e2) mb ρ (some ys)) (hρ0 : ρ.set i0 .gone = env s0) (hf : ∀ s x, f (D.tup [e x.1, e2 x.2]) (env s) = some (env1 s x)) (hb : ∀ s x, Bk (Qs (i0 :: kl) env Q) body (env1 s x) (g s x)) (h2 : ∀ s, (env s).set i0 (eL true eGn (List.replicate xs.length ())) = env2 s) (hr : ∀ s, Bk Q r (env2 s) (k s)) :
    Bk Q (seqM (forCZM i0 f body kl mb) r) ρ ((forT g (xs.zip ys) s0).bind fun u => seqT u k) := fun t ht => by
  obtain ⟨u, h3, h4⟩ := ob_some ht
  obtain ⟨f2, ρ2, h7, h8⟩ := for_step1 (e := fun t : α × β => D.tup [e t.1, e2 t.2]) env env1 hf hb (xs.zip ys) s0 u h3
  have hl : lstD (eL false e2 ys) = some (ys.map e2) := by
    show (if frzL (ys.map e2) = true then some (ys.map e2) else none) = _
    rw [if_pos]
    have : frz (eL false e2 ys) = true := Fz.fz ys
    unfold eL at this
    rw [frz] at this
    exact this
  unfold seqM
  rw [forCZM_at hρ (hys ys rfl) hl, zipD_map, hρ0, h7, Option.map_some]
  cases u with
  | inl s =>
    obtain ⟨rfl, rfl⟩ := h8
    unfold forCE
    rw [List.length_map, husk_eq, h2]
    exact hr s t h4
  | inr t2 =>
    cases h4
    cases f2 with
    | rt d => exact ⟨_, _, rfl, h8.2⟩
    | _ => cases h8.1
end
end LI
/-! PT: places in tuples; a for that gives away a tuple's part; extending by owned parts. -/
namespace LI
open PySem L2
def tupL (j : Nat) (L : Lens) : Lens := ⟨fun ρ => (L.get ρ).bind fun d => match d with
    | .tup ds => (ds[j]?).bind fun d => if notGone d = true then some d else none
    | _ => none,
  fun ρ d2 => match L.get ρ with
    | some (.tup ds) => L.put ρ (.tup (ds.set j d2))
    | _ => ρ⟩
section
variable {L : Lens}
theorem tup_split {j : Nat} {ρ : List D} {d : D} (h : (tupL j L).get ρ = some d) : ∃ ds, L.get ρ = some (.tup ds) ∧ ds[j]? = some d ∧ notGone d = true ∧ ∀ d2, (tupL j L).put ρ d2 = L.put ρ (.tup (ds.set j d2)) := by
  unfold tupL at h
  cases e1 : L.get ρ with
  | none => simp [e1] at h
  | some d0 =>
    simp only [e1, Option.bind_some] at h
    split at h
    · rename_i ds
      cases e3 : ds[j]? with
      | none => rw [e3] at h; cases h
      | some d1 =>
        rw [e3, Option.bind_some] at h
        split at h
        · rename_i hn
          cases h
          exact ⟨ds, rfl, e3, hn, fun d2 => by simp [tupL, e1]⟩
        · cases h
    · cases h
theorem ixN_nat {n j : Nat} (h : j < n) : ixN n (j : Int) = some j := by
  unfold ixN
  simp [h]
end
section
variable {X : Cx} {cl : Nat → Addr} {E : En} {a : Expr} {pos p2 : Pos} {L : Lens}
theorem p_tix (j : Nat) {i : Int} {jj} (ha : PE X a (tPl ⟨X.K, cl⟩ E L)) (hi : i = (j : Int) := by rfl) (hs : PlainIx (.Constant (.int i) jj p2) := by exact fun _ _ => rfl) : PE X (.Subscript a (.Constant (.int i) jj p2) pos) (tPl ⟨X.K, cl⟩ E (tupL j L)) :=
  PE_imp (pe_ix ix_seq ha pe_int hs) fun σ H Q ⟨P, S, T, ρ, d, w, hg, q⟩ => by
    obtain ⟨ds, h1, h4, h5, h6⟩ := tup_split hg
    refine ⟨P, S, T, ρ, _, w, h1, fun v Sd R l => ?_⟩
    obtain ⟨p, xs, e1, hh, rl⟩ := l.rep
    obtain ⟨z, S1, R1, k1, k2, k3, k4⟩ := rl.focus h4
    refine .inr (.inl ⟨p, xs, i, z, e1, rfl, sqt_mono w.ph hh, ?_, q z S1 (fa R1 R) ⟨fun b => ?_, k2, fun P2 H2 d2 S2 ep kr r2 => ?_⟩⟩)
    · unfold atI; rw [hi, ixN_nat (List.getElem?_eq_some_iff.mp k1).1]; exact k1
    · have := l.sum b; have := k3 b; simp only [fa]; omega
    · rw [h6]
      have rl2 := k4 P2 H2 d2 z S2 ep (fun b u z1 z2 => kr b u (by simp only [fa]; omega) z2) r2
      have e2 : xs.set j z = xs := by
        apply List.ext_getElem?
        intro t
        by_cases ht : t = j
        · subst ht; rw [k1, List.getElem?_set_self (List.getElem?_eq_some_iff.mp k1).1]
        · rw [List.getElem?_set_ne (Ne.symm ht)]
      rw [e2] at rl2
      have := l.put P2 H2 (.tup (ds.set j d2)) (fa S2 R1) ep (fun b u z1 z2 => kr b u (by simp only [fa]; omega) z2) ⟨p, xs, e1, sqt_mono ep hh, rl2⟩
      rw [fa_assoc] at this
      exact this
end
/-! ### extending by owned parts -/
def extO (i : Nat) (g : GM) : GM := fun ρ => match ρ[i]? with
  | some (.lst true _) => (g ρ).bind fun r => match r.1, r.2[i]? with
    | .lst true ys, some (.lst true ds) => if ds.length + ys.length ≤ LIM then some (.non, r.2.set i (.lst true (ds ++ ys))) else none
    | _, _ => none
  | _ => none
section
variable {X : Cx} {cl : Nat → Addr} {E : En} {e : Expr} {pos apos : Pos} {g : GM}
theorem g_extO (i : Nat) {x : Str} {px : Pos} (he : PE X e (tG ⟨X.K, cl⟩ E g)) (hN : X.N[i]? = some x := by rfl) (hv : Vis X.env.scope x := by first | exact Or.inl rfl | exact Or.inr (Or.inl rfl) | exact Or.inr (Or.inr rfl))
    (hd : (x == ("__debug__" : Str)) = false := by decide) (hcd : (x == ("__classdict__" : Str)) = false := by decide)
    (hbase : attributeBase (.Name x px) "extend" X.env (eval (.Name x px) X.env) = eval (.Name x px) X.env := by rfl)
    (hfew : ((backTo pos (starEach [e] X.env)).all (fun x => !x.1) && (backToKw pos (keywordEach [] X.env)).all (fun x => x.1.isSome)
      && decide ([e].length + ([] : List Keyword).length + (if ([] : List Keyword).isEmpty then 0 else 1) < 30)) = true := by rfl)
    (hline : (apos.endLine == pos.line) = true := by rfl) (hs : starEach [e] X.env = (false, eval e X.env) :: starEach [] X.env := by rfl) : PE X (.Call (.Attribute (.Name x px) "extend" apos) [e] [] pos) (tG ⟨X.K, cl⟩ E (extO i g)) := by
  refine PE_imp (pe_bm PySem.F.plainAttrs_list PySem.F.slot_list_extend PySem.F.type_list_extend mt_extend (pe_var hN hv hd hcd) (pa_cons he pa_nil hs) hbase hfew hline hs) fun σ H Q ⟨P, S, T, ρ, d, ρ', w, hm, q⟩ => ?_
  unfold extO at hm
  split at hm
  · rename_i ds0 hi
    cases eg : g ρ with
    | none => rw [eg] at hm; cases hm
    | some r =>
      obtain ⟨dy, ρ1⟩ := r
      rw [eg, Option.bind_some] at hm
      split at hm
      · rename_i ys ds h1 h2
        split at hm
        · rename_i hl
          cases hm
          obtain ⟨v, Sd0, R0, hv0, r0, _, _⟩ := w.env.focus hi rfl
          obtain ⟨a0, xs0, T0, ev0, h0, _⟩ := r0
          refine ⟨v, hv0, by rw [ev0]; exact .inl ⟨rfl, xs0, .inl (.inl h0)⟩, P, S, T, ρ, dy, ρ1, w, eg, fun z H1 P1 S1 U1 w1 ep r1 kT => ?_⟩
          replace h1 : dy = .lst true ys := h1
          subst h1
          obtain ⟨Sd, R, l⟩ := loc_v w1 (show ρ1[i]? = some _ from h2) rfl hv0
          obtain ⟨a, xs, T1, ev, hh, rl, hf⟩ := l.rep
          have hS : ∀ b, Sd b = one a b + T1 b := fun b => by rw [hf]; rfl
          obtain ⟨p2, zs, TU, ez, hz, rz, hU⟩ := r1
          have hU' : ∀ b, U1 b = one p2 b + TU b := fun b => by rw [hU]; rfl
          refine ⟨a, p2, xs, zs, ev, by rw [ez], hh, hz, by rw [← rl.length, ← rz.length]; exact lim_le hl, ?_⟩
          have kp := fun o => keep_own w1 l hS o
          have hu : ∀ b, 0 < T1 b + U1 b → H1 b ≠ none := fun b hb => by
            by_cases hU : 0 < U1 b
            · exact w1.th b (by simp only [fa]; omega)
            · exact RepL.there ds xs T1 rl b (by omega)
          have rnew : RepL ⟨X.K, cl⟩ P1 (upd H1 a (.lst (xs ++ zs))) (ds ++ ys) (xs ++ zs) (fa T1 TU) :=
            RepL.append (repL_h' rl fun b u hb hu => kp _ b u (by omega) hu) (repL_h' rz fun b u hb hu => kp _ b u (by have := hU' b; simp only [fa]; omega) hu)
          have w2 := loc_own w1 l hS hu (.lst (xs ++ zs)) (.lst true (ds ++ ys)) (fa T1 TU) fz ⟨a, _, _, ev, upd_same, rnew, rfl⟩ (fun b => by have := hU' b; simp only [fa, fz]; omega)
          exact q .non _ P1 _ fz w2 ep ⟨rfl, rfl⟩ fun b u hb hu => kp _ b u (by simp only [fa]; omega) (kT b u hb hu)
        · cases hm
      · cases hm
  · cases hm
end
/-! ### a for over a tuple's part -/
def forCTE (i j : Nat) (ds0 : List D) (n : Nat) (r : Fl × List D) : Fl × List D := match r.1 with
  | .nx => (.nx, r.2.set i (.tup (ds0.set j (husk n))))
  | _ => r
def forCTM (i j : Nat) (f : TgM) (body : SM) (kl : List Nat) : SM := fun ρ => match ρ[i]? with
  | some (.tup ds0) => match ds0[j]? with
    | some (.lst true ds) => (forL f body (i :: kl) ds (ρ.set i .gone)).map (forCTE i j ds0 ds.length)
    | _ => none
  | _ => none
def tIT (K : PySem.W.Frag) (i j : Nat) : TI := fun σ H R => ∃ b xs0 a, σ[i]? = some (some (.ref b)) ∧ SqT K H b xs0 ∧ xs0[j]? = some (.ref a) ∧ (∃ xs, SqL K H a xs) ∧ R (Itl K a) H
theorem set_same {α : Type} {xs : List α} {j : Nat} {z : α} (k1 : xs[j]? = some z) : xs.set j z = xs := by
  apply List.ext_getElem?
  intro t
  by_cases ht : t = j
  · subst ht; rw [k1, List.getElem?_set_self (List.getElem?_eq_some_iff.mp k1).1]
  · rw [List.getElem?_set_ne (Ne.symm ht)]
theorem forCT_run {c : LC} {E : En} {kp : List Bool} {i0 j0 : Nat} {tl kl : List Nat} {f : TgM} {body : SM} {D : Ends} {σ : L2.St} {H : Hp} (hkE : ∀ i : Nat, E.kp[i]? = some true → kp[i]? = some true) (hkS : ∀ i : Nat, kp[i]? = some true → i = i0 ∨ E.kp[i]? = some true) (hk0 : kp[i0]? = some true) (hi0 : i0 ∉ tl)
    (h : tS c E (forCTM i0 j0 f body kl) D σ H) : tFor (tIT c.K i0 j0) (tPG c E tl f) (tSF c kp body) D σ H := by
  obtain ⟨P, S, ρ, fl, ρ', w, hm, q⟩ := h
  unfold forCTM at hm
  split at hm
  · rename_i ds0 hρ
    split at hm
    · rename_i ds hds
      cases hl : forL f body (i0 :: kl) ds (ρ.set i0 .gone) with
      | none => rw [hl] at hm; cases hm
      | some r =>
        rw [hl] at hm
        have hr : forCTE i0 j0 ds0 ds.length r = (fl, ρ') := Option.some.inj hm
        obtain ⟨v, Sd, R, hσ, hrep, hsum, hput⟩ := w.env.focus hρ rfl
        obtain ⟨b0, xs0, rfl, hb0, rl0⟩ := hrep
        obtain ⟨y0, SL, R0, hy0, hrep, hsum0, put0⟩ := rl0.focus hds
        obtain ⟨a, xs, Tx, rfl, hH, hxs, hSL⟩ := hrep
        have hlen := hxs.length
        refine ⟨b0, xs0, a, hσ, sqt_mono w.ph hb0, hy0, ⟨xs, .inl (.inl hH)⟩, ?_⟩
        have henv := hput P H .gone fz (.refl P) (fun _ _ _ h => h) rfl
        have hSa : ∀ b, S b = one a b + Tx b + R0 b + R b := fun b => by have := hsum b; have := hsum0 b; rw [hSL] at this; simp only [fa] at this; omega
        have w0 : Wd c E P (fa fz R) (fa (fa (one a) R0) Tx) σ H (ρ.set i0 .gone) := by
          refine ⟨henv, fun b => ?_, fun b h => w.out b ?_, fun b h => ?_, w.ph, w.p0, w.fr, w.np, fun b h => w.ns b ?_, w.kp⟩
          · have := w.le b; have := hSa b; simp only [fa, fz] at *; omega
          · have := hSa b; simp only [fa, fz] at *; omega
          · by_cases z : b = a
            · rw [z, hH]; simp
            · have hz : one a b = 0 := by simp [one, z]
              refine RepL.there ds0 xs0 Sd rl0 b ?_
              have := hsum0 b; rw [hSL] at this; simp only [fa, fz] at *; omega
          · have := hSa b; simp only [fa, fz] at *; omega
        have fin : ∀ {P2 S2 σ2 H2 ρ2} {T2 : FP}, Wd c E P2 S2 T2 σ2 H2 ρ2 → Ex P P2 → (∀ b, one a b + R0 b ≤ T2 b) → σ2[i0]? = some (some (.ref b0)) → H2 a = some (.lst xs) → (∀ b o, 0 < R0 b → H b = some o → H2 b = some o) → ∃ S3, Wd c E P2 S3 fz σ2 H2 (ρ2.set i0 (.tup (ds0.set j0 (husk ds.length)))) := by
          intro P2 S2 σ2 H2 ρ2 T2 w2 eP hT hσ2 hH2 hR0
          have hhusk : Rep c P2 H2 (husk ds.length) (.ref a) (one a) := ⟨a, xs, fz, rfl, hH2, by rw [show ds.length = xs.length from hlen]; exact repL_husk xs, (fa_fz _).symm⟩
          have rl2 := put0 P2 H2 _ (.ref a) _ eP hR0 hhusk
          rw [set_same hy0] at rl2
          have hrep : Rep c P2 H2 (.tup (ds0.set j0 (husk ds.length))) (.ref b0) (fa (one a) R0) := ⟨b0, xs0, rfl, sqt_mono eP hb0, rl2⟩
          obtain ⟨S3, h1, h2⟩ := RepE.set hrep i0 w2.env
          rw [set_same hσ2] at h1
          exact ⟨S3, w2.shrink h1 (fun b => by have := h2 b; have := hT b; simp only [fz, fa] at *; omega) (fun _ => Nat.zero_le _) w2.kp⟩
        refine for_it (walk_list (xs := xs)) (fun i σi Hi => ∃ P2 S2 Tr ρi, Wd c E P2 S2 (fa (fa (one a) R0) Tr) σi Hi ρi ∧ Ex P P2 ∧ σi[i0]? = some (some (.ref b0)) ∧ Hi a = some (.lst xs) ∧ (∀ b o, 0 < R0 b → H b = some o → Hi b = some o) ∧ RepL c P2 Hi (ds.drop i) (xs.drop i) Tr ∧ forL f body (i0 :: kl) (ds.drop i) ρi = some r) ?_ ?_ ?_ ?_
        · exact ⟨P, _, Tx, _, w0, .refl _, hσ, hH, fun _ _ _ h => h, hxs, hl⟩
        · rintro i σi Hi hi ⟨P2, S2, Tr, ρi, w2, e2, h1, h2, _⟩
          exact .inl (.inl h2)
        · rintro i x σi Hi H3 hi ⟨P2, S2, Tr, ρi, w2, e2, h1, h2, hR, h3, hf⟩ ⟨rfl, hx⟩
          have hdl : i < ds.length := by rw [hlen]; exact hi
          rw [List.drop_eq_getElem_cons hdl] at hf h3
          obtain ⟨y, ys, U, W, e3, rd, rl, hU⟩ := h3
          rw [List.drop_eq_getElem_cons hi] at e3
          injection e3 with e4 e5
          have hxy : x = y := by
            rw [List.getElem?_eq_getElem hi] at hx
            exact (Option.some.inj hx).symm.trans e4
          subst hxy e5 hU
          unfold forL at hf
          cases ef : f ds[i] ρi with
          | none => rw [ef] at hf; cases hf
          | some ρ1 =>
            cases eb : body ρ1 with
            | none => rw [ef, Option.bind_some, eb] at hf; cases hf
            | some rr =>
              obtain ⟨f1, ρ2⟩ := rr
              rw [ef, Option.bind_some, eb, Option.bind_some] at hf
              have e6 : fa (fa (one a) R0) (fa U W) = fa (fa (fa (one a) R0) W) U := by rw [fa_assoc (fa (one a) R0), fa_comm W U]
              rw [e6] at w2
              refine ⟨P2, S2, fa (fa (one a) R0) W, U, ρi, ds[i], ρ1, w2, rd, ef, fun σ4 S4 w4 l4 k4 => ?_⟩
              have hσ4 : σ4[i0]? = some (some (.ref b0)) := (k4 i0 hi0).trans h1
              have hks : ∀ j : Nat, kp[j]? = some true → ∃ v, σ4[j]? = some (some v) := fun j hj => by
                rcases hkS j hj with rfl | hj
                · exact ⟨_, hσ4⟩
                · obtain ⟨v, hv⟩ := E.hv j hj
                  exact ⟨v, w4.kp j v hj hv⟩
              refine ⟨enOf P2 H3 S4 kp σ4 hks, rfl, P2, S4, ρ1, f1, ρ2, w4.frame kp hks, eb, ?_⟩
              have back : ∀ {σ' H' P' S' U'}, Wd c (enOf P2 H3 S4 kp σ4 hks) P' S' U' σ' H' ρ2 → Wd c E P' S' (fa (fa (fa (one a) R0) W) U') σ' H' ρ2 ∧ σ'[i0]? = some (some (.ref b0)) ∧ H' a = some (.lst xs) ∧ (∀ b o, 0 < R0 b → H b = some o → H' b = some o) := by
                intro σ' H' P' S' U' w'
                refine ⟨w4.unframe hks hkE w', ?_, ?_, fun b o k1 k2 => w4.keep w' b o (by simp only [fa]; omega) (hR b o k1 k2)⟩
                · refine w'.kp i0 (.ref b0) hk0 ?_
                  show (σ4.map fun v => v.getD .non)[i0]? = some (.ref b0)
                  rw [List.getElem?_map, hσ4]; rfl
                · exact w4.keep w' a _ (by simp [fa, one]; omega) h2
              have step : ∀ {σ' H' P' S'}, Wd c (enOf P2 H3 S4 kp σ4 hks) P' S' fz σ' H' ρ2 → Ex P2 P' → forL f body (i0 :: kl) (ds.drop (i + 1)) (goneAt ρ2 (i0 :: kl)) = some r → ∃ P3 S3 Tr ρi, Wd c E P3 S3 (fa (fa (one a) R0) Tr) σ' H' ρi ∧ Ex P P3 ∧ σ'[i0]? = some (some (.ref b0)) ∧ H' a = some (.lst xs) ∧ (∀ b o, 0 < R0 b → H b = some o → H' b = some o) ∧ RepL c P3 H' (ds.drop (i + 1)) (xs.drop (i + 1)) Tr ∧ forL f body (i0 :: kl) (ds.drop (i + 1)) ρi = some r := by
                intro σ' H' P' S' w' x' hf'
                obtain ⟨w5, b1, b2, b3⟩ := back w'
                rw [fa_fz] at w5
                obtain ⟨S6, w6⟩ := w5.forget (i0 :: kl)
                exact ⟨P', S6, W, _, w6, e2.trans x', b1, b2, b3, RepL.mono x' _ _ W (fun b o hb ho => w4.keep w' b o (by simp only [fa]; omega) ho) rl, hf'⟩
              cases f1 with
              | nx =>
                intro σ' H' P' S' w' x'
                exact step w' x' hf
              | ct =>
                intro σ' H' P' S' w' x'
                exact step w' x' hf
              | bk =>
                cases hf
                cases hr
                intro σ' H' P' S' w' x'
                obtain ⟨w5, b1, b2, b3⟩ := back w'
                obtain ⟨S6, w6⟩ := w5.forget (i0 :: kl)
                obtain ⟨S7, w7⟩ := fin w6 (e2.trans x') (fun b => by simp only [fa]; omega) b1 b2 b3
                exact q σ' H' P' S7 w7 (e2.trans x')
              | rt d' =>
                cases hf
                cases hr
                intro v σ' H' P' S' U' w' rep
                obtain ⟨w5, _, _⟩ := back w'
                exact q v σ' H' P' S' U' (w5.shrink w5.env (fun b => by simp only [fa]; omega) (fun b => by simp only [fa]; omega) w5.kp) rep
        · rintro σi Hi ⟨P2, S2, Tr, ρi, w2, e2, h1, h2, hR, h3, hf⟩
          rw [show ds.drop xs.length = [] from List.drop_eq_nil_of_le (by rw [hlen]; exact Nat.le_refl _)] at hf
          cases hf
          cases hr
          obtain ⟨S7, w7⟩ := fin w2 e2 (fun b => by simp only [fa]; omega) h1 h2 hR
          exact q σi Hi P2 S7 w7 e2
    · cases hm
  · cases hm
section
variable {X : Cx} {cl : Nat → Addr} {E : En} {tg : Expr} {pos p p2 p3 : Pos} {x : Str}
theorem i_ownT (i j : Nat) {k : Int} {jj} (hi : k = (j : Int) := by rfl) (hN : X.N[i]? = some x := by rfl) (hv : Vis X.env.scope x := by first | exact Or.inl rfl | exact Or.inr (Or.inl rfl) | exact Or.inr (Or.inr rfl)) (hd : (x == ("__debug__" : Str)) = false := by decide)
    (hcd : (x == ("__classdict__" : Str)) = false := by decide) (hs : PlainIx (.Constant (.int k) jj p2) := by exact fun _ _ => rfl) : PI X tg (.Subscript (.Name x p) (.Constant (.int k) jj p2) p3) (tIT X.K i j) := PI_imp (pi_list (pe_ix ix_seq (pe_var hN hv hd hcd) pe_int hs)) fun σ H R ⟨b, xs0, a, h1, h2, h3, h4, h5⟩ =>
  ⟨.ref b, h1, .inr (.inl ⟨b, xs0, k, .ref a, rfl, rfl, h2, by unfold atI; rw [hi, ixN_nat (List.getElem?_eq_some_iff.mp h3).1]; exact h3, a, rfl, h4, h5⟩)⟩
theorem s_forCT (i0 j0 : Nat) (kp : List Bool) {sb : List Stmt} {tl : List Nat} (kl : List Nat) {f : TgM} {body : SM} {k : Int} {jj} (hp : PassesOwn (model X.prog X.w) X.A X.env X.xe) (hc : X.calm = true) (hkE : ∀ i : Nat, E.kp[i]? = some true → kp[i]? = some true) (hkS : ∀ i : Nat, kp[i]? = some true → i = i0 ∨ E.kp[i]? = some true) (hk0 : kp[i0]? = some true) (hi0 : i0 ∉ tl)
    (hg : PG X tg (tPG ⟨X.K, cl⟩ E tl f)) (hb : ∀ E : En, E.kp = kp → PSs X sb (tS ⟨X.K, cl⟩ E body))
    (hi : k = (j0 : Int) := by rfl) (hN : X.N[i0]? = some x := by rfl) (hv : Vis X.env.scope x := by first | exact Or.inl rfl | exact Or.inr (Or.inl rfl) | exact Or.inr (Or.inr rfl)) (hd : (x == ("__debug__" : Str)) = false := by decide)
    (hcd : (x == ("__classdict__" : Str)) = false := by decide) (hs2 : PlainIx (.Constant (.int k) jj p2) := by exact fun _ _ => rfl) (hs : ∀ y, foldedSetIterable (.Subscript (.Name x p) (.Constant (.int k) jj p2) p3) X.env y = pure y := by intro _; rfl) : PS X (.For tg (.Subscript (.Name x p) (.Constant (.int k) jj p2) p3) sb [] pos) (tS ⟨X.K, cl⟩ E (forCTM i0 j0 f body kl)) :=
  PS_imp (ps_for hp hc (i_ownT i0 j0 hi hN hv hd hcd hs2) hg ⟨fun pins s σ H D I ⟨E', h1, h2⟩ => (hb E' h1).run pins s σ H D I h2⟩ hs) fun _ _ _ h => forCT_run hkE hkS hk0 hi0 h
end
/-! ### what is handed over and never looked at -/
def goneM (m : RM) : RM := fun ρ => (m ρ).map fun _ => .gone
section
variable {X : Cx} {cl : Nat → Addr} {E : En} {e : Expr} {m : RM}
theorem f_gone (h : PE X e (tF ⟨X.K, cl⟩ E m)) : PE X e (tF ⟨X.K, cl⟩ E (goneM m)) := PE_imp h fun σ H Q ⟨P, S, T, ρ, d, w, hm, q⟩ => by
  unfold goneM at hm
  cases e1 : m ρ with
  | none => rw [e1] at hm; cases hm
  | some d1 =>
    rw [e1] at hm
    cases hm
    exact ⟨P, S, T, ρ, d1, w, e1, fun v H' P' U g r f1 f2 => q v H' P' fz g rfl (fun a => Nat.zero_le _) fun a h => absurd h (Nat.lt_irrefl 0)⟩
end
/-! ### lifted -/
section
variable {α β σ τ : Type} {Q : Fl → List D → τ → Prop} {e : α → D} {r body : SM} {ρ : List D} {k : σ → Option τ} {f : TgM} {kl : List Nat}
theorem x_gone {m : RM} {o : Option α} (h : Ev e m ρ o) : Ev eGn (goneM m) ρ (o.bind fun _ => some ()) := fun y hy => by
  obtain ⟨x, h1, _⟩ := ob_some hy
  unfold goneM
  rw [h x h1]; rfl
theorem forCTM_at {i0 j0 : Nat} {ds0 ds : List D} (h : ρ[i0]? = some (.tup ds0)) (h2 : ds0[j0]? = some (.lst true ds)) : forCTM i0 j0 f body kl ρ = (forL f body (i0 :: kl) ds (ρ.set i0 .gone)).map (forCTE i0 j0 ds0 ds.length) := by
  unfold forCTM; rw [h]; dsimp only; rw [h2]
theorem b_forCT (i0 j0 : Nat) (ds0 : List D) (xs : List α) (env : σ → List D) (s0 : σ) (env1 : σ → α → List D) (env2 : σ → List D) {g : σ → α → Option σ} (hρ : ρ[i0]? = some (.tup ds0)) (hds : ds0[j0]? = some (eL true e xs)) (hρ0 : ρ.set i0 .gone = env s0) (hf : ∀ s x, f (e x) (env s) = some (env1 s x)) (hb : ∀ s x, Bk (Ql (i0 :: kl) env) body (env1 s x) (g s x)) (h2 : ∀ s, (env s).set i0 (.tup (ds0.set j0 (eL true eGn (List.replicate xs.length ())))) = env2 s) (hr : ∀ s, Bk Q r (env2 s) (k s)) :
    Bk Q (seqM (forCTM i0 j0 f body kl) r) ρ ((foldT g xs s0).bind k) := fun t ht => by
  obtain ⟨s, h3, h4⟩ := ob_some ht
  obtain ⟨fl, ρ', h5, h6⟩ := hr s t h4
  refine ⟨fl, ρ', ?_, h6⟩
  have hm : forCTM i0 j0 f body kl ρ = some (.nx, env2 s) := by
    rw [forCTM_at hρ hds, hρ0, for_fold1 env env1 hf hb xs s0 s h3, Option.map_some]
    unfold forCTE
    rw [List.length_map, husk_eq, h2]
  unfold seqM
  rw [hm]
  exact h5
theorem b_forCTR (i0 j0 : Nat) (ds0 : List D) (xs : List α) (env : σ → List D) (s0 : σ) (env1 : σ → α → List D) (env2 : σ → List D) {g : σ → α → Option (St σ τ)} (hρ : ρ[i0]? = some (.tup ds0)) (hds : ds0[j0]? = some (eL true e xs)) (hρ0 : ρ.set i0 .gone = env s0) (hf : ∀ s x, f (e x) (env s) = some (env1 s x)) (hb : ∀ s x, Bk (Qs (i0 :: kl) env Q) body (env1 s x) (g s x)) (h2 : ∀ s, (env s).set i0 (.tup (ds0.set j0 (eL true eGn (List.replicate xs.length ())))) = env2 s) (hr : ∀ s, Bk Q r (env2 s) (k s)) :
    Bk Q (seqM (forCTM i0 j0 f body kl) r) ρ ((forT g xs s0).bind fun u => seqT u k) := fun t ht => by
  obtain ⟨u, h3, h4⟩ := ob_some ht
  obtain ⟨f2, ρ2, h7, h8⟩ := for_step1 env env1 hf hb xs s0 u h3
  unfold seqM
  rw [forCTM_at hρ hds, hρ0, h7, Option.map_some]
  cases u with
  | inl s =>
    obtain ⟨rfl, rfl⟩ := h8
    unfold forCTE
    rw [List.length_map, husk_eq, h2]
    exact hr s t h4
  | inr t2 =>
    cases h4
    cases f2 with
    | rt d => exact ⟨_, _, rfl, h8.2⟩
    | _ => cases h8.1
theorem eg_extO {α β : Type} {e : α → D} {o : Option α} {g : GM} {a : β → D} {i : Nat} {xs0 : List β} {xs ys : α → List β} {env0 : α → List D} {env : α × List β → List D} (h0 : ρ[i]? = some (eL true a xs0)) (hg : Eg e env0 g ρ o) (he : ∀ x, e x = eL true a (ys x)) (h1 : ∀ x, (env0 x)[i]? = some (eL true a (xs x))) (hp : ∀ p, (env0 p.1).set i (eL true a p.2) = env p) :
    Eg (fun _ => .non) env (extO i g) ρ (o.bind fun x => (catL (xs x) (ys x)).bind fun z => some (x, z)) := fun p hy => by
  obtain ⟨x, h2, h3⟩ := ob_some hy
  obtain ⟨z, h4, h5⟩ := ob_some h3
  cases h5
  unfold catL at h4
  split at h4
  · rename_i q
    cases h4
    unfold extO
    rw [h0]
    show (g ρ).bind _ = _
    rw [hg x h2, Option.bind_some]
    simp only [he, h1]
    show (if ((xs x).map a).length + ((ys x).map a).length ≤ LIM then _ else none) = _
    rw [if_pos (by simpa using q), ← hp]
    simp [eL]
  · cases h4
end
end LI
/-! VA: working with what is lifted. -/
namespace LI
open PySem L2

@[simp] theorem foldT_nil {σ α : Type} {g : σ → α → Option σ} {s : σ} : foldT g [] s = some s := (rfl)
@[simp] theorem foldT_cons {σ α : Type} {g : σ → α → Option σ} {s : σ} {x : α} {xs : List α} : foldT g (x :: xs) s = (g s x).bind fun s => foldT g xs s := (rfl)
theorem foldT_app {σ α : Type} {g : σ → α → Option σ} : ∀ {xs ys : List α} {s : σ}, foldT g (xs ++ ys) s = (foldT g xs s).bind fun s => foldT g ys s
  | [], ys, s => rfl
  | x :: xs, ys, s => by
    rw [List.cons_append, foldT_cons, foldT_cons, Option.bind_assoc]
    congr 1; funext s'; exact foldT_app
@[simp] theorem forT_nil {σ α τ : Type} {g : σ → α → Option (St σ τ)} {s : σ} : forT g [] s = some (.inl s) := (rfl)
theorem forT_cons {σ α τ : Type} {g : σ → α → Option (St σ τ)} {s : σ} {x : α} {xs : List α} : forT g (x :: xs) s = (g s x).bind fun u => match u with
    | .nx s => forT g xs s
    | .bk s => some (.inl s)
    | .rt t => some (.inr t) := (rfl)
@[simp] theorem seqT_inl {σ τ : Type} {s : σ} {k : σ → Option τ} : seqT (.inl s) k = k s := (rfl)
@[simp] theorem seqT_inr {σ τ : Type} {t : τ} {k : σ → Option τ} : seqT (.inr t) k = some t := (rfl)
theorem foldT_inv {σ α : Type} {g : σ → α → Option σ} (P : σ → Prop) : ∀ (xs : List α) (s : σ), P s → (∀ s x, P s → x ∈ xs → ∃ s', g s x = some s' ∧ P s') → ∃ s', foldT g xs s = some s' ∧ P s'
  | [], s, h, _ => ⟨s, rfl, h⟩
  | x :: xs, s, h, k => by
    obtain ⟨s1, h1, h2⟩ := k s x h (by simp)
    obtain ⟨s2, h3, h4⟩ := foldT_inv P xs s1 h2 fun s y hs hy => k s y hs (by simp [hy])
    exact ⟨s2, by rw [foldT_cons, h1]; exact h3, h4⟩
/-- with how many are still to come -/
theorem foldT_cnt {σ α : Type} {g : σ → α → Option σ} (P : Nat → σ → Prop) : ∀ (xs : List α) (s : σ), P xs.length s → (∀ n s x, P (n + 1) s → x ∈ xs → ∃ s', g s x = some s' ∧ P n s') → ∃ s', foldT g xs s = some s' ∧ P 0 s'
  | [], s, h, _ => ⟨s, rfl, h⟩
  | x :: xs, s, h, k => by
    obtain ⟨s1, h1, h2⟩ := k xs.length s x h (by simp)
    obtain ⟨s2, h3, h4⟩ := foldT_cnt P xs s1 h2 fun n s y hs hy => k n s y hs (by simp [hy])
    exact ⟨s2, by rw [foldT_cons, h1]; exact h3, h4⟩
/-- with what has been gone through -/
theorem foldT_pre {σ α : Type} {g : σ → α → Option σ} (P : List α → σ → Prop) : ∀ (xs pre : List α) (s : σ), P pre s → (∀ pre s x suf, P pre s → pre ++ x :: suf = pre ++ x :: suf → x ∈ xs → ∃ s', g s x = some s' ∧ P (pre ++ [x]) s') → ∃ s', foldT g xs s = some s' ∧ P (pre ++ xs) s'
  | [], pre, s, h, _ => ⟨s, rfl, by simpa using h⟩
  | x :: xs, pre, s, h, k => by
    obtain ⟨s1, h1, h2⟩ := k pre s x xs h rfl (by simp)
    obtain ⟨s2, h3, h4⟩ := foldT_pre P xs (pre ++ [x]) s1 h2 fun p s y suf hs e hy => k p s y suf hs e (by simp [hy])
    exact ⟨s2, by rw [foldT_cons, h1]; exact h3, by simpa using h4⟩
/-- told: what the fold of a plain step gives -/
theorem foldT_eq {σ α : Type} {g : σ → α → Option σ} (f : σ → α → σ) (P : σ → Prop) : ∀ (xs : List α) (s : σ), P s → (∀ s x, P s → x ∈ xs → g s x = some (f s x) ∧ P (f s x)) → foldT g xs s = some (xs.foldl f s) ∧ P (xs.foldl f s)
  | [], s, h, _ => ⟨rfl, h⟩
  | x :: xs, s, h, k => by
    obtain ⟨h1, h2⟩ := k s x h (by simp)
    obtain ⟨h3, h4⟩ := foldT_eq f P xs (f s x) h2 fun s y hs hy => k s y hs (by simp [hy])
    exact ⟨by rw [foldT_cons, h1]; exact h3, h4⟩
/-- a loop that goes through without leaving -/
theorem forT_inv {σ α τ : Type} {g : σ → α → Option (St σ τ)} (P : σ → Prop) : ∀ (xs : List α) (s : σ), P s → (∀ s x, P s → x ∈ xs → ∃ s', g s x = some (.nx s') ∧ P s') → ∃ s', forT g xs s = some (.inl s') ∧ P s'
  | [], s, h, _ => ⟨s, rfl, h⟩
  | x :: xs, s, h, k => by
    obtain ⟨s1, h1, h2⟩ := k s x h (by simp)
    obtain ⟨s2, h3, h4⟩ := forT_inv P xs s1 h2 fun s y hs hy => k s y hs (by simp [hy])
    exact ⟨s2, by rw [forT_cons, h1]; exact h3, h4⟩
theorem forT_cnt {σ α τ : Type} {g : σ → α → Option (St σ τ)} (P : Nat → σ → Prop) : ∀ (xs : List α) (s : σ), P xs.length s → (∀ n s x, P (n + 1) s → x ∈ xs → ∃ s', g s x = some (.nx s') ∧ P n s') → ∃ s', forT g xs s = some (.inl s') ∧ P 0 s'
  | [], s, h, _ => ⟨s, rfl, h⟩
  | x :: xs, s, h, k => by
    obtain ⟨s1, h1, h2⟩ := k xs.length s x h (by simp)
    obtain ⟨s2, h3, h4⟩ := forT_cnt P xs s1 h2 fun n s y hs hy => k n s y hs (by simp [hy])
    exact ⟨s2, by rw [forT_cons, h1]; exact h3, h4⟩
theorem forT_unit {α τ : Type} {g : Unit → α → Option (St Unit τ)} (xs : List α) (k : ∀ x, x ∈ xs → g () x = some (.nx ())) : forT g xs () = some (.inl ()) := by
  obtain ⟨s, h, _⟩ := forT_inv (fun _ => True) xs () trivial fun s x _ hx => ⟨(), k x hx, trivial⟩
  exact h
theorem whileT_succ {σ : Type} {p : σ → Option Bool} {g : σ → Option σ} {n : Nat} {s : σ} : whileT p g (n + 1) s = (p s).bind fun k => if k = true then (g s).bind fun s => whileT p g n s else some s := rfl
/-- a while by a measure -/
theorem whileT_inv {σ : Type} {p : σ → Option Bool} {g : σ → Option σ} (P : σ → Prop) (μ : σ → Nat) (E : σ → Prop) (h : ∀ s, P s → (p s = some false ∧ E s) ∨ (p s = some true ∧ ∃ s', g s = some s' ∧ P s' ∧ μ s' < μ s)) : ∀ (n : Nat) (s : σ), P s → μ s < n → ∃ s', whileT p g n s = some s' ∧ P s' ∧ E s'
  | 0, s, _, hm => absurd hm (Nat.not_lt_zero _)
  | n + 1, s, hp, hm => by
    rcases h s hp with ⟨h1, h2⟩ | ⟨h1, s1, h2, h3, h4⟩
    · exact ⟨s, by rw [whileT_succ, h1]; rfl, hp, h2⟩
    · obtain ⟨s2, k1, k2⟩ := whileT_inv P μ E h n s1 h3 (by omega)
      exact ⟨s2, by rw [whileT_succ, h1, Option.bind_some, if_pos rfl, h2]; exact k1, k2⟩
theorem whilT_succ {σ τ : Type} {p : σ → Option Bool} {g : σ → Option (St σ τ)} {n : Nat} {s : σ} : whilT p g (n + 1) s = (p s).bind fun k => if k = true then (g s).bind fun u => match u with
    | .nx s => whilT p g n s
    | .bk s => some (.inl s)
    | .rt t => some (.inr t)
    else some (.inl s) := rfl
theorem whilT_inv {σ τ : Type} {p : σ → Option Bool} {g : σ → Option (St σ τ)} (P : σ → Prop) (μ : σ → Nat) (E1 : σ → Prop) (E2 : τ → Prop) (h : ∀ s, P s → (p s = some false ∧ E1 s) ∨ (p s = some true ∧ ∃ u, g s = some u ∧ match u with | .nx s' => P s' ∧ μ s' < μ s | .bk s' => E1 s' | .rt t => E2 t)) : ∀ (n : Nat) (s : σ), P s → μ s < n → ∃ r, whilT p g n s = some r ∧ match r with | .inl s => E1 s | .inr t => E2 t
  | 0, s, _, hm => absurd hm (Nat.not_lt_zero _)
  | n + 1, s, hp, hm => by
    rcases h s hp with ⟨h1, h2⟩ | ⟨h1, u, h2, h3⟩
    · exact ⟨.inl s, by rw [whilT_succ, h1]; rfl, h2⟩
    · rw [whilT_succ, h1, Option.bind_some, if_pos rfl, h2, Option.bind_some]
      cases u with
      | nx s1 => exact whilT_inv P μ E1 E2 h n s1 h3.1 (by omega)
      | bk s1 => exact ⟨.inl s1, rfl, h3⟩
      | rt t => exact ⟨.inr t, rfl, h3⟩
/-- by what is still to come -/
theorem forT_gen {σ α τ : Type} {g : σ → α → Option (St σ τ)} (P : List α → σ → Prop) (E1 : σ → Prop) (E2 : τ → Prop) (h0 : ∀ s, P [] s → E1 s) (h : ∀ x xs s, P (x :: xs) s → ∃ u, g s x = some u ∧ match u with | .nx s' => P xs s' | .bk s' => E1 s' | .rt t => E2 t) : ∀ (xs : List α) (s : σ), P xs s → ∃ r, forT g xs s = some r ∧ match r with | .inl s => E1 s | .inr t => E2 t
  | [], s, hp => ⟨.inl s, rfl, h0 s hp⟩
  | x :: xs, s, hp => by
    obtain ⟨u, h1, h2⟩ := h x xs s hp
    rw [forT_cons, h1, Option.bind_some]
    cases u with
    | nx s1 => exact forT_gen P E1 E2 h0 h xs s1 h2
    | bk s1 => exact ⟨.inl s1, rfl, h2⟩
    | rt t => exact ⟨.inr t, rfl, h2⟩
theorem forT_nxt {σ α τ : Type} {g : σ → α → Option (St σ τ)} (P : List α → σ → Prop) (h : ∀ x xs s, P (x :: xs) s → ∃ s', g s x = some (.nx s') ∧ P xs s') : ∀ (xs : List α) (s : σ), P xs s → ∃ s', forT g xs s = some (.inl s') ∧ P [] s'
  | [], s, hp => ⟨s, rfl, hp⟩
  | x :: xs, s, hp => by
    obtain ⟨s1, h1, h2⟩ := h x xs s hp
    obtain ⟨s2, h3, h4⟩ := forT_nxt P h xs s1 h2
    exact ⟨s2, by rw [forT_cons, h1]; exact h3, h4⟩
theorem foldT_gen {σ α : Type} {g : σ → α → Option σ} (P : List α → σ → Prop) (h : ∀ x xs s, P (x :: xs) s → ∃ s', g s x = some s' ∧ P xs s') : ∀ (xs : List α) (s : σ), P xs s → ∃ s', foldT g xs s = some s' ∧ P [] s'
  | [], s, hp => ⟨s, rfl, hp⟩
  | x :: xs, s, hp => by
    obtain ⟨s1, h1, h2⟩ := h x xs s hp
    obtain ⟨s2, h3, h4⟩ := foldT_gen P h xs s1 h2
    exact ⟨s2, by rw [foldT_cons, h1]; exact h3, h4⟩
/-! ### comprehensions -/
theorem compG_ex {α β : Type} {g : α → Option β} {P : α → β → Prop} : ∀ {xs : List α}, (∀ x ∈ xs, ∃ y, g x = some y ∧ P x y) → ∃ ys, compG (fun _ => some true) g xs = some ys ∧ ys.length = xs.length ∧ ∀ y ∈ ys, ∃ x ∈ xs, P x y
  | [], _ => ⟨[], rfl, rfl, by simp⟩
  | x :: xs, h => by
    obtain ⟨y, h1, h2⟩ := h x (by simp)
    obtain ⟨ys, h3, h4, h5⟩ := compG_ex (xs := xs) fun z hz => h z (by simp [hz])
    refine ⟨y :: ys, by simp [compG, h1, h3], by simp [h4], ?_⟩
    intro z hz
    rcases List.mem_cons.mp hz with rfl | hz
    · exact ⟨x, by simp, h2⟩
    · obtain ⟨w, h6, h7⟩ := h5 z hz
      exact ⟨w, by simp [h6], h7⟩
theorem compT_ex {α β : Type} {g : α → Option β} {P : α → β → Prop} {xs : List α} (hl : xs.length ≤ LIM) (h : ∀ x ∈ xs, ∃ y, g x = some y ∧ P x y) : ∃ ys, compT (fun _ => some true) g xs = some ys ∧ ys.length = xs.length ∧ ∀ y ∈ ys, ∃ x ∈ xs, P x y := by
  unfold compT; rw [if_pos hl]; exact compG_ex h
theorem compG_map {α β : Type} {g : α → Option β} {f : α → β} : ∀ {xs : List α}, (∀ x ∈ xs, g x = some (f x)) → compG (fun _ => some true) g xs = some (xs.map f)
  | [], _ => rfl
  | x :: xs, h => by simp [compG, h x (by simp), compG_map (xs := xs) fun z hz => h z (by simp [hz])]
theorem compT_map {α β : Type} {g : α → Option β} {f : α → β} {xs : List α} (hl : xs.length ≤ LIM) (h : ∀ x ∈ xs, g x = some (f x)) : compT (fun _ => some true) g xs = some (xs.map f) := by
  unfold compT; rw [if_pos hl]; exact compG_map h
theorem compG_fil {α β : Type} {p : α → Option Bool} {q : α → Bool} {g : α → Option β} {f : α → β} : ∀ {xs : List α}, (∀ x ∈ xs, p x = some (q x)) → (∀ x ∈ xs, q x = true → g x = some (f x)) → compG p g xs = some ((xs.filter q).map f)
  | [], _, _ => rfl
  | x :: xs, hp, h => by
    have ih := compG_fil (xs := xs) (fun z hz => hp z (by simp [hz])) fun z hz => h z (by simp [hz])
    cases hq : q x with
    | true => simp [compG, hp x (by simp), hq, h x (by simp) hq, ih]
    | false => simp [compG, hp x (by simp), hq, ih]
theorem compT_fil {α β : Type} {p : α → Option Bool} {q : α → Bool} {g : α → Option β} {f : α → β} {xs : List α} (hl : xs.length ≤ LIM) (hp : ∀ x ∈ xs, p x = some (q x)) (h : ∀ x ∈ xs, q x = true → g x = some (f x)) : compT p g xs = some ((xs.filter q).map f) := by
  unfold compT; rw [if_pos hl]; exact compG_fil hp h
/-! ### operations -/
theorem lenS_ok {s : Ts} (h : s.length ≤ LIM) : lenS s = some (s.length : Int) := if_pos h
theorem catS_ok {s t : Ts} (h : s.length + t.length ≤ LIM) : catS s t = some (s ++ t) := if_pos h
theorem catL_ok {α : Type} {s t : List α} (h : s.length + t.length ≤ LIM) : catL s t = some (s ++ t) := if_pos h
theorem appT_ok {α : Type} {s : List α} {x : α} (h : s.length < LIM) : appT s x = some (s ++ [x]) := if_pos h
theorem slS_ok {s : Ts} {lo hi : Option Int} (h : s.length ≤ LIM) : slS lo hi s = some (cutL s lo hi) := if_pos h
theorem ixS_ok {s : Ts} {i : Nat} (h : s.length ≤ LIM) (hi : i < s.length) : ixS s (i : Int) = some [s[i]] := by
  unfold ixS; rw [if_pos h, atI_nat hi]; rfl
theorem truS_ok {s : Ts} (h : s.length ≤ LIM) : truS s = some (!s.isEmpty) := if_pos h
theorem rngT_ok {n : Int} (h1 : -1000000000000 ≤ n) (h2 : n ≤ 1000000000000) : rngT n = some ((List.range n.toNat).map fun (k : Nat) => (k : Int)) := if_pos ⟨by omega, by omega⟩
theorem rng2T_ok {i j : Int} (h1 : -1000000000000 ≤ i) (h2 : i ≤ 1000000000000) (h3 : -1000000000000 ≤ j) (h4 : j ≤ 1000000000000) : rng2T i j = some ((List.range (j - i).toNat).map fun (k : Nat) => i + (k : Int)) := if_pos ⟨by omega, by omega, by omega, by omega⟩
theorem mulT_ok {a b : Int} (h1 : -1000000000000000000 ≤ a) (h2 : a ≤ 1000000000000000000) : mulT a b = some (a * b) := if_pos (.inl ⟨by omega, by omega⟩)
theorem modT_ok {a b : Int} (h : 0 < b) : modT a b = some (a % b) := if_pos h
theorem atI_ok {α : Type} {xs : List α} {i : Int} (h0 : 0 ≤ i) (h1 : i < (xs.length : Int)) : ∃ x ∈ xs, atI xs i = some x :=
  have : i.toNat < xs.length := by omega
  ⟨_, List.getElem_mem this, atI_at h0 this⟩
theorem ixS_mem {s : Ts} {i : Int} (h : s.length ≤ LIM) (h0 : 0 ≤ i) (h1 : i < (s.length : Int)) : ∃ c ∈ s, ixS s i = some [c] := by
  obtain ⟨c, h2, h3⟩ := atI_ok h0 h1
  exact ⟨c, h2, by unfold ixS; rw [if_pos h, h3]; rfl⟩
@[simp] theorem inS_1 {c : Char} {z : Ts} : inS [c] z = some (decide (c ∈ z)) := (rfl)
theorem mod_in (c n : Int) (hn : 0 < n) : 0 ≤ c % n ∧ c % n < n := ⟨Int.emod_nonneg _ (by omega), Int.emod_lt_of_pos _ hn⟩
theorem chars_len (s : Ts) : (chars s).length = s.length := List.length_map _
theorem chars_mem {s x : Ts} (h : x ∈ chars s) : ∃ c ∈ s, x = [c] := by
  unfold chars at h
  obtain ⟨c, h1, h2⟩ := List.mem_map.mp h
  exact ⟨c, h1, h2.symm⟩
theorem cut_nat {α : Type} {xs : List α} {a b : Nat} : cutL xs (some (a : Int)) (some (b : Int)) = (xs.take b).drop a := by
  rw [cut_fromto (by omega) (by omega)]
  simp [List.drop_take]
end LI
namespace OW
open PySem L2 LI
structure OReader where
  kept : Ts
  place : Int
def t_is_sign (thing : Ts) : Option Bool :=
  (if true = true then (((lenS thing).bind fun v1_ => some (decide (v1_ = (1 : Int)))).bind fun v2_ => (if v2_ = true then (some (!ltS thing [' '] && !ltS ['}'] thing)) else some false)) else some false)
def t_is_colour (thing : Ts) : Option Bool :=
  (if true = true then (((lenS thing).bind fun v1_ => some (decide (v1_ = (1 : Int)))).bind fun v2_ => (if v2_ = true then (inS thing ['a', 'b', 'c', 'd', 'e', 'f', 'g', 'h', '.']) else some false)) else some false)
def t_checked (text : Ts) : Option Unit :=
  if (!true) = true then
  none
  else
  (foldT (fun (s1_ : Unit) (x2_ : (Int × Ts)) =>
  ((((t_is_sign x2_.2).bind fun v3_ => some (!v3_)).bind fun v4_ => (if v4_ = true then ((inS x2_.2 ['\n', '\t']).bind fun k => some (!k)) else some false)).bind fun v5_ => if v5_ = true then
  none
  else
  some ())) (enumT 0 (chars text)) ()).bind fun (s1_ : Unit) =>
  some ()
def kt_ENDS : List (Ts × Ts) := [(['\n'], ['e', 'n', 'd']), (['\t'], ['a', 'n', 'e', 'w'])]
def t_sign_item (place : Int) (sign : Ts) : Option (Int × Ts × Ts) :=
  if ((kdS kt_ENDS sign).isSome) = true then
  ((kdS kt_ENDS sign).bind fun v1_ => some (place, v1_, ([] : Ts)))
  else
  some (place, (['s', 'i', 'g', 'n'] : Ts), sign)
def t_begins_mark (text : Ts) : Option Bool :=
  if (memT text ([(['['] : Ts), (['[', '/'] : Ts)] : (List Ts))) = true then
  some true
  else
  ((((lenS text).bind fun v1_ => some (decide (v1_ = (2 : Int)))).bind fun v2_ => (if v2_ = true then ((ixS text (0 : Int)).bind fun v3_ => some (decide (v3_ = (['['] : Ts)))) else some false)).bind fun v4_ => if v4_ = true then
  ((ixS text (1 : Int)).bind fun v5_ => (t_is_colour v5_))
  else
  (((lenS text).bind fun v6_ => some (decide (v6_ = (3 : Int)))).bind fun v7_ => (if v7_ = true then (((slS none (some (2 : Int)) text).bind fun v8_ => some (decide (v8_ = (['[', '/'] : Ts)))).bind fun v9_ => (if v9_ = true then ((ixS text (2 : Int)).bind fun v10_ => (t_is_colour v10_)) else some false)) else some false)))
def t_mark_item (place : Int) (text : Ts) : Option (Option (Int × Ts × Ts)) :=
  if (decide (text = (['[', '['] : Ts))) = true then
  some (some (place, (['s', 'i', 'g', 'n'] : Ts), (['['] : Ts)))
  else
  if (decide (text = (['[', ']'] : Ts))) = true then
  some (some (place, (['p', 'l', 'a', 'i', 'n'] : Ts), ([] : Ts)))
  else
  ((((lenS text).bind fun v1_ => some (decide (v1_ = (3 : Int)))).bind fun v2_ => (if v2_ = true then (((ixS text (0 : Int)).bind fun v3_ => some (decide (v3_ = (['['] : Ts)))).bind fun v4_ => (if v4_ = true then (((ixS text (1 : Int)).bind fun v5_ => (t_is_colour v5_)).bind fun v6_ => (if v6_ = true then ((ixS text (2 : Int)).bind fun v7_ => some ((decide (v7_ = ([']'] : Ts))))) else some false)) else some false)) else some false)).bind fun v8_ => if v8_ = true then
  (((ixS text (1 : Int)).bind fun v9_ => some (place, (['i', 'n', 'k'] : Ts), v9_)).bind fun v10_ => some (some v10_))
  else
  ((((lenS text).bind fun v11_ => some (decide (v11_ = (4 : Int)))).bind fun v12_ => (if v12_ = true then (((slS none (some (2 : Int)) text).bind fun v13_ => some (decide (v13_ = (['[', '/'] : Ts)))).bind fun v14_ => (if v14_ = true then (((ixS text (2 : Int)).bind fun v15_ => (t_is_colour v15_)).bind fun v16_ => (if v16_ = true then ((ixS text (3 : Int)).bind fun v17_ => some ((decide (v17_ = ([']'] : Ts))))) else some false)) else some false)) else some false)).bind fun v18_ => if v18_ = true then
  (((ixS text (2 : Int)).bind fun v19_ => some (place, (['g', 'r', 'o', 'u', 'n', 'd'] : Ts), v19_)).bind fun v20_ => some (some v20_))
  else
  some ((fun _ => none) ())))
def t_Reader_init  : Option OReader :=
  let u1_ : Ts := ([] : Ts)
  let u2_ : Int := (0 : Int)
  some ({ kept := u1_, place := u2_ : OReader })
def t_Reader_told (self : OReader) (many : Int) : Option ((List (Int × Ts × Ts)) × OReader) :=
  let found : (List (Int × Ts × Ts)) := ([] : (List (Int × Ts × Ts)))
  (((slS none (some many) self.kept).bind fun v1_ => some (chars v1_)).bind fun v2_ => (foldT (fun (s3_ : (OReader × (List (Int × Ts × Ts)))) (sign : Ts) =>
  (((t_sign_item s3_.1.place sign).bind fun v4_ => (appT s3_.2 v4_))).bind fun (u5_ : (List (Int × Ts × Ts))) =>
  let u6_ : Int := (s3_.1.place + (1 : Int))
  some ({ s3_.1 with place := u6_ }, u5_)) v2_ (self, found)).bind fun (s3_ : (OReader × (List (Int × Ts × Ts)))) =>
  ((slS (some many) none s3_.1.kept)).bind fun (u7_ : Ts) =>
  some (s3_.2, { s3_.1 with kept := u7_ }))
def t_Reader_take (self : OReader) (sign : Ts) : Option ((List (Int × Ts × Ts)) × OReader) :=
  (((catS self.kept sign).bind fun v1_ => (t_mark_item self.place v1_))).bind fun (whole : (Option (Int × Ts × Ts))) =>
  if (Option.isSome whole) = true then
  ((((lenS self.kept).bind fun v2_ => some (self.place + v2_)).bind fun v3_ => some (v3_ + (1 : Int)))).bind fun (u4_ : Int) =>
  let u5_ : Ts := ([] : Ts)
  ((whole.bind fun v6_ => some ([v6_] : (List (Int × Ts × Ts))))).bind fun u7_ => some (u7_, { { self with place := u4_ } with kept := u5_ })
  else
  (((catS self.kept sign).bind fun v8_ => (t_begins_mark v8_)).bind fun v9_ => if v9_ = true then
  ((catS self.kept sign)).bind fun (u10_ : Ts) =>
  some (([] : (List (Int × Ts × Ts))), { self with kept := u10_ })
  else
  (((lenS self.kept).bind fun v11_ => (t_Reader_told self v11_))).bind fun (u12_ : ((List (Int × Ts × Ts)) × OReader)) =>
  let u13_ : Ts := sign
  ((if (!decide (sign = (['['] : Ts))) = true then
  (((t_Reader_told ({ u12_.2 with kept := u13_ }) (1 : Int)).bind fun r14_ => (catL u12_.1 r14_.1).bind fun z15_ => some (r14_, z15_))).bind fun (u16_ : (((List (Int × Ts × Ts)) × OReader) × (List (Int × Ts × Ts)))) =>
  some (u16_.1.2, u16_.2)
  else
  some ({ u12_.2 with kept := u13_ }, u12_.1) : Option (OReader × (List (Int × Ts × Ts))))).bind fun (s17_ : (OReader × (List (Int × Ts × Ts)))) =>
  some (s17_.2, s17_.1))
def t_Reader_feed (self : OReader) (piece : Ts) : Option ((List (Int × Ts × Ts)) × OReader) :=
  ((t_checked piece)).bind fun (u1_ : Unit) =>
  let found : (List (Int × Ts × Ts)) := ([] : (List (Int × Ts × Ts)))
  (foldT (fun (s2_ : (OReader × (List (Int × Ts × Ts)))) (sign : Ts) =>
  (((t_Reader_take s2_.1 sign).bind fun r3_ => (catL s2_.2 r3_.1).bind fun z4_ => some (r3_, z4_))).bind fun (u5_ : (((List (Int × Ts × Ts)) × OReader) × (List (Int × Ts × Ts)))) =>
  some (u5_.1.2, u5_.2)) (chars piece) (self, found)).bind fun (s2_ : (OReader × (List (Int × Ts × Ts)))) =>
  some (s2_.2, s2_.1)
def t_Reader_finish (self : OReader) : Option ((List (Int × Ts × Ts)) × OReader) :=
  (((lenS self.kept).bind fun v1_ => (t_Reader_told self v1_))).bind fun u2_ => some (u2_.1, u2_.2)
def t_items_of (text : Ts) : Option (List (Int × Ts × Ts)) :=
  (t_Reader_init).bind fun (reader : OReader) =>
  ((t_Reader_feed reader text)).bind fun (u1_ : ((List (Int × Ts × Ts)) × OReader)) =>
  (((t_Reader_finish u1_.2).bind fun r2_ => (catL u1_.1 r2_.1).bind fun z3_ => some (z3_, r2_))).bind fun u4_ => some u4_.1
def t_lw_cell (script : (List Int)) (k : Int) : Option Int :=
  if decide (k < (List.length script : Int)) = true then
  (atI script k)
  else
  some (0 : Int)
def t_lw_mix (cell_here : Int) (k : Int) : Option Int :=
  if decide ((1000000000000000000 : Int) < cell_here) = true then
  let rest : Int := cell_here
  ((rngT k).bind fun v1_ => (foldT (fun (s2_ : Int) (turn : Int) =>
  let rest : Int := (s2_ / 1000000000)
  some rest) v1_ rest).bind fun (s2_ : Int) =>
  some (s2_ % 1000000000))
  else
  let number : Int := ((cell_here % 2147483647) + (7919 : Int))
  ((rngT (k + (2 : Int))).bind fun v3_ => (foldT (fun (s4_ : Int) (turn : Int) =>
  let number : Int := (((s4_ * 48271) + (104729 : Int)) % 2147483629)
  some number) v3_ number).bind fun (s4_ : Int) =>
  (((mulT s4_ s4_).bind fun v5_ => some (v5_ % 998244353)).bind fun v6_ => some (v6_ / 11)))
def t_lw_signs  : Option Ts :=
  let some_ : Ts := ([' ', '!', '"', '#', '$', '&', '\'', '(', ')', '*', '+', ',', '-', '.', '/', '0', '1', '2', '3', '4', '5', '6', '7', '8', '9', ':', ';', '<', '=', '>', '?', '@', 'A', 'B', 'C', 'D', 'E', 'F', 'G', 'H', 'I', 'J', 'K', 'L', 'M', 'N', 'O', 'P', 'Q', 'R', 'S', 'T', 'U', 'V', 'W', 'X', 'Y', 'Z'] : Ts)
  (catS some_ (['[', '\\', ']', '^', '_', '`', 'a', 'b', 'c', 'd', 'e', 'f', 'g', 'h', 'i', 'j', 'k', 'l', 'm', 'n', 'o', 'p', 'q', 'r', 's', 't', 'u', 'v', 'w', 'x', 'y', 'z', '{', '|', '}'] : Ts))
def t_lw_token (cell_here : Int) : Option Ts :=
  ((((t_lw_mix cell_here (2 : Int)).bind fun v1_ => some (v1_ % 9)).bind fun v2_ => (ixS (['a', 'b', 'c', 'd', 'e', 'f', 'g', 'h', '.'] : Ts) v2_))).bind fun (colour : Ts) =>
  (((t_lw_mix cell_here (0 : Int)).bind fun v3_ => some (v3_ % 12))).bind fun (way : Int) =>
  ((t_lw_mix cell_here (1 : Int))).bind fun (pick : Int) =>
  (((catS (['['] : Ts) colour).bind fun v4_ => (catS (['[', '/'] : Ts) colour).bind fun v5_ => (((catS (['['] : Ts) colour).bind fun v6_ => (catS v6_ colour)).bind fun v7_ => (catS v7_ (([']'] : Ts)))).bind fun v8_ => some ([(['['] : Ts), (['[', '/'] : Ts), v4_, v5_, (['[', 'i', ']'] : Ts), (['[', '/', ']'] : Ts), v8_, (['[', 'A', ']'] : Ts), (['[', '/', 'i', ']'] : Ts), (['[', '[', '['] : Ts)] : (List Ts)))).bind fun (odd : (List Ts)) =>
  (((((catS (['['] : Ts) colour).bind fun v9_ => (catS v9_ (['['] : Ts))).bind fun v10_ => ((catS (['[', '/'] : Ts) colour).bind fun v11_ => (catS v11_ ((['/', ']'] : Ts)))).bind fun v12_ => ((catS (['[', '/', '/'] : Ts) colour).bind fun v13_ => (catS v13_ (([']'] : Ts)))).bind fun v14_ => ((catS (['['] : Ts) colour).bind fun v15_ => (catS v15_ (['\n'] : Ts))).bind fun v16_ => some ([(['[', '/', '['] : Ts), v10_, v12_, v14_, v16_, ([']'] : Ts), (['/'] : Ts)] : (List Ts))).bind fun v17_ => (catL odd v17_))).bind fun (odd_2 : (List Ts)) =>
  ((((catS (['[', '/'] : Ts) colour).bind fun v18_ => (catS v18_ ((['\t', ']'] : Ts)))).bind fun v19_ => (appT odd_2 v19_))).bind fun (u20_ : (List Ts)) =>
  if decide (way < (3 : Int)) = true then
  (t_lw_signs.bind fun v21_ => (ixS v21_ (pick % 93)))
  else
  if (decide (way = (3 : Int))) = true then
  (ixS ([' ', 'A', 'B', 'Z'] : Ts) (pick % 4))
  else
  if (decide (way = (4 : Int))) = true then
  ((catS (['['] : Ts) colour).bind fun v22_ => (catS v22_ (([']'] : Ts))))
  else
  if (decide (way = (5 : Int))) = true then
  ((catS (['[', '/'] : Ts) colour).bind fun v23_ => (catS v23_ (([']'] : Ts))))
  else
  if (decide (way = (6 : Int))) = true then
  (atI ([(['[', ']'] : Ts), (['[', '['] : Ts), (['[', ']', ']'] : Ts), (['[', '[', ']'] : Ts)] : (List Ts)) (pick % 4))
  else
  if (decide (way = (9 : Int))) = true then
  (atI ([(['\n'] : Ts), (['\t'] : Ts), (['\n'] : Ts)] : (List Ts)) (pick % 3))
  else
  if (decide (way = (10 : Int))) = true then
  some colour
  else
  if (decide (way = (11 : Int))) = true then
  (slS none (some ((2 : Int) + (pick % 8))) (['o', 'u', 't', 'w', 'e', 'a', 'v', 'e', 's'] : Ts))
  else
  (atI u20_ (pick % 18))
def t_lw_item (text : Ts) (at_ : Int) : Option ((Int × Ts × Ts) × Int) :=
  let colours : Ts := (['a', 'b', 'c', 'd', 'e', 'f', 'g', 'h', '.'] : Ts)
  ((slS (some at_) (some (at_ + (4 : Int))) text)).bind fun (here : Ts) =>
  (((ixS here (0 : Int)).bind fun v1_ => some (decide (v1_ = (['\n'] : Ts)))).bind fun v2_ => if v2_ = true then
  some ((at_, (['e', 'n', 'd'] : Ts), ([] : Ts)), (1 : Int))
  else
  (((ixS here (0 : Int)).bind fun v3_ => some (decide (v3_ = (['\t'] : Ts)))).bind fun v4_ => if v4_ = true then
  some ((at_, (['a', 'n', 'e', 'w'] : Ts), ([] : Ts)), (1 : Int))
  else
  (((slS none (some (2 : Int)) here).bind fun v5_ => some (decide (v5_ = (['[', ']'] : Ts)))).bind fun v6_ => if v6_ = true then
  some ((at_, (['p', 'l', 'a', 'i', 'n'] : Ts), ([] : Ts)), (2 : Int))
  else
  (((slS none (some (2 : Int)) here).bind fun v7_ => some (decide (v7_ = (['[', '['] : Ts)))).bind fun v8_ => if v8_ = true then
  some ((at_, (['s', 'i', 'g', 'n'] : Ts), (['['] : Ts)), (2 : Int))
  else
  ((((lenS here).bind fun v9_ => some (decide ((2 : Int) < v9_))).bind fun v10_ => (if v10_ = true then (((ixS here (0 : Int)).bind fun v11_ => some (decide (v11_ = (['['] : Ts)))).bind fun v12_ => (if v12_ = true then (((ixS here (1 : Int)).bind fun v13_ => (inS v13_ colours)).bind fun v14_ => (if v14_ = true then ((ixS here (2 : Int)).bind fun v15_ => some ((decide (v15_ = ([']'] : Ts))))) else some false)) else some false)) else some false)).bind fun v16_ => if v16_ = true then
  (((ixS here (1 : Int)).bind fun v17_ => some (at_, (['i', 'n', 'k'] : Ts), v17_)).bind fun v18_ => some (v18_, (3 : Int)))
  else
  ((((lenS here).bind fun v19_ => some (decide (v19_ = (4 : Int)))).bind fun v20_ => (if v20_ = true then (((slS none (some (2 : Int)) here).bind fun v21_ => some (decide (v21_ = (['[', '/'] : Ts)))).bind fun v22_ => (if v22_ = true then (((ixS here (2 : Int)).bind fun v23_ => (inS v23_ colours)).bind fun v24_ => (if v24_ = true then ((ixS here (3 : Int)).bind fun v25_ => some ((decide (v25_ = ([']'] : Ts))))) else some false)) else some false)) else some false)).bind fun v26_ => if v26_ = true then
  (((ixS here (2 : Int)).bind fun v27_ => some (at_, (['g', 'r', 'o', 'u', 'n', 'd'] : Ts), v27_)).bind fun v28_ => some (v28_, (4 : Int)))
  else
  (((ixS here (0 : Int)).bind fun v29_ => some (at_, (['s', 'i', 'g', 'n'] : Ts), v29_)).bind fun v30_ => some (v30_, (1 : Int)))))))))
def t_lw_items (text : Ts) : Option (List (Int × Ts × Ts)) :=
  let items_here : (List (Int × Ts × Ts)) := ([] : (List (Int × Ts × Ts)))
  let at_ : Int := (0 : Int)
  (whileT (fun (s1_ : ((List (Int × Ts × Ts)) × Int)) => ((lenS text).bind fun v2_ => some (decide (s1_.2 < v2_)))) (fun (s1_ : ((List (Int × Ts × Ts)) × Int)) =>
  ((t_lw_item text s1_.2)).bind fun (u3_ : ((Int × Ts × Ts) × Int)) =>
  ((appT s1_.1 u3_.1)).bind fun (u4_ : (List (Int × Ts × Ts))) =>
  let at_ : Int := (s1_.2 + u3_.2)
  some (u4_, at_)) 5000 (items_here, at_)).bind fun (s1_ : ((List (Int × Ts × Ts)) × Int)) =>
  some s1_.1
def t_lw_whole (found : Int) : Option Bool :=
  some (true && (!false))
def t_lw_same (found : (List (Int × Ts × Ts))) (due : (List (Int × Ts × Ts))) : Option Bool :=
  if ((!true) || (!decide ((List.length found : Int) = (List.length due : Int)))) = true then
  some false
  else
  (forT (τ := Bool) (fun (s1_ : Unit) (item_here : (Int × Ts × Ts)) =>
  ((if (!true) = true then some true else (if (!decide ((3 : Int) = (3 : Int))) = true then some true else ((t_lw_whole item_here.1).bind fun v2_ => some (!v2_)))).bind fun v3_ => if v3_ = true then
  some (.rt false : (St Unit Bool))
  else
  if ((!true) || (!true)) = true then
  some (.rt false : (St Unit Bool))
  else
  some (.nx () : (St Unit Bool)))) found ()).bind fun u => seqT u fun (s1_ : Unit) => some (decide (found = due))
def kt_FORMS : List (Ts × Ts) := [(['p', 'l', 'a', 'i', 'n'], ['[', ']']), (['e', 'n', 'd'], ['\n']), (['a', 'n', 'e', 'w'], ['\t'])]
def t_item_text (item : (Int × Ts × Ts)) : Option Ts :=
  let u1_ : (Int × Ts × Ts) := item
  if (decide (u1_.2.1 = (['i', 'n', 'k'] : Ts))) = true then
  ((catS (['['] : Ts) u1_.2.2).bind fun v2_ => (catS v2_ (([']'] : Ts))))
  else
  if (decide (u1_.2.1 = (['g', 'r', 'o', 'u', 'n', 'd'] : Ts))) = true then
  ((catS (['[', '/'] : Ts) u1_.2.2).bind fun v3_ => (catS v3_ (([']'] : Ts))))
  else
  if ((decide (u1_.2.1 = (['s', 'i', 'g', 'n'] : Ts))) && (decide (u1_.2.2 = (['['] : Ts)))) = true then
  some (['[', '['] : Ts)
  else
  if (decide (u1_.2.1 = (['s', 'i', 'g', 'n'] : Ts))) = true then
  some u1_.2.2
  else
  (kdS kt_FORMS u1_.2.1)
def t_text_of (items : (List (Int × Ts × Ts))) : Option Ts :=
  ((compT (fun (item : (Int × Ts × Ts)) => (some true)) (fun (item : (Int × Ts × Ts)) => (t_item_text item)) items).bind fun v1_ => (joinS ([] : Ts) v1_))
end OW
/-! MA: signs, marks, readers: what is told of a text. -/
namespace OW
open PySem L2 LI

def cols : Ts := ['a', 'b', 'c', 'd', 'e', 'f', 'g', 'h', '.']
def isCol (c : Char) : Bool := decide (c ∈ cols)
def isSg (c : Char) : Bool := decide (32 ≤ c.toNat) && decide (c.toNat ≤ 125)
/-- what a hand may write -/
def okC (c : Char) : Bool := isSg c || decide (c = '\n') || decide (c = '\t')
def okT (s : Ts) : Prop := (∀ c ∈ s, okC c = true) ∧ s.length ≤ LIM
abbrev Im := Int × Ts × Ts
def kSign : Ts := ['s', 'i', 'g', 'n']
def kInk : Ts := ['i', 'n', 'k']
def kGround : Ts := ['g', 'r', 'o', 'u', 'n', 'd']
def kPlain : Ts := ['p', 'l', 'a', 'i', 'n']
def kEnd : Ts := ['e', 'n', 'd']
def kAnew : Ts := ['a', 'n', 'e', 'w']
/-- a sign that stands for itself -/
def sgI (c : Char) : Ts × Ts := if c = '\n' then (kEnd, []) else if c = '\t' then (kAnew, []) else (kSign, [c])
def isColO : Option Char → Bool
  | some c => isCol c
  | none => false
/-- what begins a text: kind, value, how many signs -/
def stp (s : Ts) : (Ts × Ts) × Nat :=
  if s[0]? = some '[' then
    if s[1]? = some ']' then ((kPlain, []), 2)
    else if s[1]? = some '[' then ((kSign, ['[']), 2)
    else if isColO s[1]? = true ∧ s[2]? = some ']' then ((kInk, [s[1]?.getD ' ']), 3)
    else if s[1]? = some '/' ∧ isColO s[2]? = true ∧ s[3]? = some ']' then ((kGround, [s[2]?.getD ' ']), 4)
    else ((kSign, ['[']), 1)
  else (sgI (s[0]?.getD ' '), 1)
/-- held back: the beginning of a mark -/
def hld (s : Ts) : Bool := decide (s[0]? = some '[') && (decide (s.length = 1) || (decide (s.length = 2) && (decide (s[1]? = some '/') || isColO s[1]?)) || (decide (s.length = 3) && decide (s[1]? = some '/') && isColO s[2]?))
theorem stp_pos (s : Ts) : 0 < (stp s).2 := by
  unfold stp
  repeat' split
  all_goals simp
theorem stp_le {s : Ts} (h : s ≠ []) : (stp s).2 ≤ s.length := by
  rcases s with _ | ⟨a, _ | ⟨b, _ | ⟨c, _ | ⟨d, s⟩⟩⟩⟩
  · exact absurd rfl h
  all_goals
    unfold stp
    simp [isColO]
    repeat' split
    all_goals simp
    all_goals omega
/-- the items of a text from place p on -/
def its (p : Int) (s : Ts) : List Im :=
  if h : s = [] then [] else (p, (stp s).1.1, (stp s).1.2) :: its (p + (stp s).2) (s.drop (stp s).2)
termination_by s.length
decreasing_by
  have := stp_pos s
  have : 0 < s.length := List.length_pos_iff.mpr h
  rw [List.length_drop]; omega
/-- those that are certain, and the rest -/
def sure (p : Int) (s : Ts) : List Im × Ts :=
  if h : s = [] then ([], []) else if hld s = true then ([], s) else ((p, (stp s).1.1, (stp s).1.2) :: (sure (p + (stp s).2) (s.drop (stp s).2)).1, (sure (p + (stp s).2) (s.drop (stp s).2)).2)
termination_by s.length
decreasing_by
  all_goals
    have := stp_pos s
    have : 0 < s.length := List.length_pos_iff.mpr h
    rw [List.length_drop]; omega
theorem its_nil (p : Int) : its p [] = [] := by rw [its]; simp
theorem its_cons {p : Int} {s : Ts} (h : s ≠ []) : its p s = (p, (stp s).1.1, (stp s).1.2) :: its (p + (stp s).2) (s.drop (stp s).2) := by rw [its, dif_neg h]
theorem sure_nil (p : Int) : sure p [] = ([], []) := by rw [sure]; simp
theorem sure_hld {p : Int} {s : Ts} (h : hld s = true) : sure p s = ([], s) := by
  rw [sure]
  by_cases hs : s = []
  · subst hs; cases h
  · rw [dif_neg hs, if_pos h]
theorem sure_cons {p : Int} {s : Ts} (h : s ≠ []) (h2 : hld s = false) : sure p s = ((p, (stp s).1.1, (stp s).1.2) :: (sure (p + (stp s).2) (s.drop (stp s).2)).1, (sure (p + (stp s).2) (s.drop (stp s).2)).2) := by
  rw [sure, dif_neg h, if_neg (by rw [h2]; exact Bool.false_ne_true)]
theorem hld_cases {K : Ts} (h : hld K = true) : K = ['['] ∨ K = ['[', '/'] ∨ (∃ k, isCol k = true ∧ K = ['[', k]) ∨ (∃ k, isCol k = true ∧ K = ['[', '/', k]) := by
  rcases K with _ | ⟨a, _ | ⟨b, _ | ⟨c, _ | ⟨d, s⟩⟩⟩⟩ <;> simp [hld, isColO] at h ⊢
  · exact h
  · obtain ⟨rfl, h | h⟩ := h <;> simp [h]
  · obtain ⟨⟨rfl, rfl⟩, h⟩ := h
    simp [h]
/-- what begins a text that is not held stays when more comes -/
theorem col_ne {c : Char} (h : isCol c = true) : c ≠ '[' ∧ c ≠ ']' ∧ c ≠ '/' ∧ c ≠ '\n' ∧ c ≠ '\t' := by
  unfold isCol cols at h
  simp at h
  rcases h with rfl | rfl | rfl | rfl | rfl | rfl | rfl | rfl | rfl <;> decide
theorem stp_other {c : Char} {s : Ts} (h : c ≠ '[') : stp (c :: s) = (sgI c, 1) := by
  simp [stp, h]
theorem stp_app {s t : Ts} (h : s ≠ []) (hh : hld s = false) : stp (s ++ t) = stp s := by
  rcases s with _ | ⟨a, _ | ⟨b, _ | ⟨c, _ | ⟨d, s⟩⟩⟩⟩
  · exact absurd rfl h
  · simp [hld] at hh
    simp [stp, hh]
  · by_cases ha : a = '['
    · subst ha
      simp [hld, isColO] at hh
      simp [stp, isColO, hh]
    · simp [stp, ha]
  · by_cases ha : a = '['
    · subst ha
      simp [hld, isColO] at hh
      simp [stp, isColO]
      by_cases hb : b = '/'
      · simp [hh hb]
      · simp [hb]
    · simp [stp, ha]
  · simp [stp]
theorem hld_len {s : Ts} (h : hld s = true) : s.length ≤ 3 ∧ s ≠ [] := by
  rcases hld_cases h with rfl | rfl | ⟨k, _, rfl⟩ | ⟨k, _, rfl⟩ <;> simp
/-- more that comes behind -/
theorem sure_app : ∀ (n : Nat) (p : Int) (s t : Ts), s.length ≤ n → sure p (s ++ t) = ((sure p s).1 ++ (sure (p + s.length - (sure p s).2.length) ((sure p s).2 ++ t)).1, (sure (p + s.length - (sure p s).2.length) ((sure p s).2 ++ t)).2) := by
  intro n
  induction n with
  | zero =>
    intro p s t h
    have : s = [] := List.length_eq_zero_iff.mp (by omega)
    subst this
    simp [sure_nil]
  | succ n ih =>
    intro p s t h
    by_cases hs : s = []
    · subst hs; simp [sure_nil]
    · cases hh : hld s with
      | true =>
        rw [sure_hld hh]
        have : p + (s.length : Int) - (s.length : Int) = p := by omega
        simp [this]
      | false =>
        have hn : 0 < s.length := List.length_pos_iff.mpr hs
        have hp := stp_pos s
        have hl := stp_le hs
        have hst := stp_app (t := t) hs hh
        have hne : s ++ t ≠ [] := by simp [hs]
        have hhd : t = [] ∨ hld (s ++ t) = false := by
          by_cases ht : t = []
          · exact .inl ht
          · right
            cases hq : hld (s ++ t) with
            | false => rfl
            | true =>
              exfalso
              rcases hld_cases hq with e | e | ⟨k, hk, e⟩ | ⟨k, hk, e⟩
              all_goals
                rcases s with _ | ⟨a, _ | ⟨b, _ | ⟨c, s⟩⟩⟩ <;> simp_all [hld, isColO]
        rcases hhd with rfl | hhd
        · rw [List.append_nil, List.append_nil]
          have idem : ∀ (m : Nat) (q : Int) (u : Ts), u.length ≤ m → sure (q + u.length - (sure q u).2.length) (sure q u).2 = ([], (sure q u).2) := by
            intro m
            induction m with
            | zero =>
              intro q u hu
              have : u = [] := List.length_eq_zero_iff.mp (by omega)
              subst this; simp [sure_nil]
            | succ m ihm =>
              intro q u hu
              by_cases hu0 : u = []
              · subst hu0; simp [sure_nil]
              · cases hhu : hld u with
                | true => rw [sure_hld hhu]; simp [sure_hld hhu]
                | false =>
                  have hpu := stp_pos u
                  have hlu := stp_le hu0
                  have := ihm (q + (stp u).2) (u.drop (stp u).2) (by rw [List.length_drop]; omega)
                  rw [sure_cons hu0 hhu]
                  have e : q + (stp u).2 + ((u.drop (stp u).2).length : Int) = q + u.length := by rw [List.length_drop]; omega
                  rw [e] at this
                  exact this
          rw [idem s.length p s (Nat.le_refl _)]
          simp
        · rw [sure_cons hne hhd, sure_cons hs hh, hst]
          have hd : (s ++ t).drop (stp s).2 = s.drop (stp s).2 ++ t := by rw [List.drop_append_of_le_length hl]
          rw [hd, ih (p + (stp s).2) (s.drop (stp s).2) t (by rw [List.length_drop]; omega)]
          have e : p + (stp s).2 + ((s.drop (stp s).2).length : Int) = p + s.length := by rw [List.length_drop]; omega
          rw [e]
          simp
theorem sure_rest : ∀ (n : Nat) (p : Int) (s : Ts), s.length ≤ n → (sure p s).2 = [] ∨ hld (sure p s).2 = true := by
  intro n
  induction n with
  | zero =>
    intro p s h
    have : s = [] := List.length_eq_zero_iff.mp (by omega)
    subst this; simp [sure_nil]
  | succ n ih =>
    intro p s h
    by_cases hs : s = []
    · subst hs; simp [sure_nil]
    · cases hh : hld s with
      | true => right; rw [sure_hld hh]; exact hh
      | false =>
        have hp := stp_pos s
        have hl := stp_le hs
        rw [sure_cons hs hh]
        exact ih _ _ (by rw [List.length_drop]; omega)
/-- each sign for itself -/
def each (p : Int) : Ts → List Im
  | [] => []
  | c :: s => (p, (sgI c).1, (sgI c).2) :: each (p + 1) s
theorem its_one {p : Int} {c : Char} (h : c ≠ '[') (s : Ts) : its p (c :: s) = (p, (sgI c).1, (sgI c).2) :: its (p + 1) s := by
  rw [its_cons (by simp), stp_other h]; simp
theorem its_hld {p : Int} {s : Ts} (h : hld s = true) : its p s = each p s := by
  rcases hld_cases h with rfl | rfl | ⟨k, hk, rfl⟩ | ⟨k, hk, rfl⟩
  · rw [its_cons (by simp)]; simp [stp, isColO, its_nil, each, sgI]
  · rw [its_cons (by simp)]; simp [stp, isColO, its_nil, each, sgI, its_one]
  · have := col_ne hk
    rw [its_cons (by simp)]; simp [stp, isColO, its_nil, each, sgI, its_one, this]
  · have := col_ne hk
    rw [its_cons (by simp)]; simp [stp, isColO, its_nil, each, sgI, its_one, this]
theorem its_sure : ∀ (n : Nat) (p : Int) (s : Ts), s.length ≤ n → its p s = (sure p s).1 ++ each (p + s.length - (sure p s).2.length) (sure p s).2 := by
  intro n
  induction n with
  | zero =>
    intro p s h
    have : s = [] := List.length_eq_zero_iff.mp (by omega)
    subst this; simp [sure_nil, its_nil, each]
  | succ n ih =>
    intro p s h
    by_cases hs : s = []
    · subst hs; simp [sure_nil, its_nil, each]
    · cases hh : hld s with
      | true =>
        rw [sure_hld hh, its_hld hh]
        have : p + (s.length : Int) - (s.length : Int) = p := by omega
        simp [this]
      | false =>
        have hp := stp_pos s
        have hl := stp_le hs
        rw [its_cons hs, sure_cons hs hh, ih _ (s.drop (stp s).2) (by rw [List.length_drop]; omega)]
        have e : p + (stp s).2 + ((s.drop (stp s).2).length : Int) = p + s.length := by rw [List.length_drop]; omega
        rw [e]; simp
theorem its_len : ∀ (n : Nat) (p : Int) (s : Ts), s.length ≤ n → (its p s).length ≤ s.length := by
  intro n
  induction n with
  | zero =>
    intro p s h
    have : s = [] := List.length_eq_zero_iff.mp (by omega)
    subst this; simp [its_nil]
  | succ n ih =>
    intro p s h
    by_cases hs : s = []
    · subst hs; simp [its_nil]
    · have hp := stp_pos s
      have hl := stp_le hs
      rw [its_cons hs, List.length_cons]
      have := ih (p + (stp s).2) (s.drop (stp s).2) (by rw [List.length_drop]; omega)
      rw [List.length_drop] at this; omega
end OW
/-! MB: the readers' defs tell what MA says. -/
namespace OW
open PySem L2 LI

theorem lim_lt {n : Nat} (h : n ≤ 4000000) : n ≤ LIM := h
theorem ltS_11 (a b : Char) : ltS [a] [b] = decide (a.toNat < b.toNat) := by
  unfold ltS
  simp [List.cons_lt_cons_iff]
theorem is_sign_1 (c : Char) : t_is_sign [c] = some (isSg c) := by
  unfold t_is_sign isSg
  simp [lenS, ltS_11]
  rw [Bool.eq_iff_iff]; simp
theorem is_colour_1 (c : Char) : t_is_colour [c] = some (isCol c) := by
  unfold t_is_colour isCol cols
  simp [lenS]
theorem checked_ok {s : Ts} (h : ∀ c ∈ s, okC c = true) : t_checked s = some () := by
  unfold t_checked
  simp only [Bool.not_true, Bool.false_eq_true, if_false]
  have : ∀ (n : Nat) (s : Ts), (∀ c ∈ s, okC c = true) → foldT (fun (s1 : Unit) (x2 : Int × Ts) => ((((t_is_sign x2.2).bind fun v3 => some (!v3)).bind fun v4 => (if v4 = true then ((inS x2.2 ['\n', '\t']).bind fun k => some (!k)) else some false)).bind fun v5 => if v5 = true then none else some ())) (enumT n (chars s)) () = some () := by
    intro n s
    induction s generalizing n with
    | nil => intro _; rfl
    | cons c s ih =>
      intro h
      have hc := h c (by simp)
      show foldT _ (((n : Int), [c]) :: enumT (n + 1) (chars s)) () = _
      rw [foldT_cons]
      simp only [is_sign_1, Option.bind_some, inS_1]
      have e : (if (!isSg c) = true then some (!decide (c ∈ ['\n', '\t'])) else some false) = some false := by
        unfold okC at hc
        cases hs : isSg c with
        | true => simp
        | false =>
          rw [hs] at hc
          simp at hc ⊢
          intro h; rcases hc with q | q
          · exact absurd q h
          · exact q
      rw [e]
      simp only [Option.bind_some, Bool.false_eq_true, if_false]
      exact ih (n + 1) fun d hd => h d (by simp [hd])
  have h2 := this 0 s h
  rw [h2]; rfl
theorem sign_item_1 (p : Int) (c : Char) : t_sign_item p [c] = some (p, (sgI c).1, (sgI c).2) := by
  unfold t_sign_item kt_ENDS sgI
  by_cases h1 : c = '\n'
  · subst h1; rfl
  · by_cases h2 : c = '\t'
    · subst h2; rfl
    · have e1 : ¬ '\n' = c := fun e => h1 e.symm
      have e2 : ¬ '\t' = c := fun e => h2 e.symm
      simp [kdS, h1, h2, e1, e2, kSign]
/-! ### the law's own going through -/
theorem ix_drop {s : Ts} {a i : Nat} : (s.drop a)[i]? = s[a + i]? := by rw [List.getElem?_drop]
theorem ixS_q {s : Ts} {i : Nat} {c : Char} (h : s.length ≤ LIM) (q : s[i]? = some c) : ixS s (i : Int) = some [c] := by
  obtain ⟨h1, h2⟩ := List.getElem?_eq_some_iff.mp q
  rw [ixS_ok h h1, h2]
theorem lw_item_eq {s : Ts} {a : Nat} (ha : a < s.length) (hl : s.length ≤ LIM) : t_lw_item s (a : Int) = some (((a : Int), (stp (s.drop a)).1.1, (stp (s.drop a)).1.2), ((stp (s.drop a)).2 : Int)) := by
  unfold t_lw_item
  have e4 : cutL s (some (a : Int)) (some ((a : Int) + 4)) = (s.drop a).take 4 := by
    have := cut_nat (xs := s) (a := a) (b := a + 4)
    rw [show ((a + 4 : Nat) : Int) = (a : Int) + 4 by omega] at this
    rw [this, List.drop_take]
    congr 1; omega
  simp only [slS_ok hl, e4, Option.bind_some]
  have hd : (s.drop a) ≠ [] := by
    intro e
    have := congrArg List.length e
    rw [List.length_drop, List.length_nil] at this; omega
  generalize s.drop a = r at hd
  have b3 : ∀ x : Ts, (kInk, x) = (['i', 'n', 'k'], x) := fun _ => rfl
  rcases r with _ | ⟨c0, _ | ⟨c1, _ | ⟨c2, _ | ⟨c3, r⟩⟩⟩⟩
  · exact absurd rfl hd
  all_goals
    simp [LIM, ixS, slS, lenS, cut_to, stp, isColO, isCol, cols, sgI, kInk, kGround, kPlain, kSign, kEnd, kAnew]
    by_cases h0 : c0 = '['
    · subst h0
      simp
      try
        repeat' split
        all_goals simp_all
    · simp [h0]
      repeat' split
      all_goals simp_all
theorem lw_items_eq {s : Ts} (hl : s.length < 5000) : t_lw_items s = some (its 0 s) := by
  have hL : s.length ≤ LIM := lim_lt (by omega)
  unfold t_lw_items
  dsimp only
  obtain ⟨st, h1, h2, h3⟩ := whileT_inv (p := fun (s1 : (List (Int × Ts × Ts)) × Int) => ((lenS s).bind fun v2 => some (decide (s1.2 < v2)))) (g := fun (s1 : (List (Int × Ts × Ts)) × Int) => ((t_lw_item s s1.2)).bind fun u3 => ((appT s1.1 u3.1)).bind fun u4 => some (u4, s1.2 + u3.2))
    (fun st => ∃ a : Nat, st.2 = (a : Int) ∧ a ≤ s.length ∧ st.1 ++ its (a : Int) (s.drop a) = its 0 s ∧ st.1.length ≤ a) (fun st => (s.length - st.2).toNat) (fun st => ¬ st.2 < (s.length : Int)) (by
      rintro ⟨acc, at_⟩ ⟨a, e1, h2, h3, h4⟩
      dsimp only at e1 h2 h3 h4 ⊢
      subst e1
      rw [lenS_ok hL]
      by_cases ha : a < s.length
      · right
        refine ⟨by simp [ha], ?_⟩
        have hd : s.drop a ≠ [] := fun e => by
          have := congrArg List.length e
          rw [List.length_drop, List.length_nil] at this; omega
        have hp := stp_pos (s.drop a)
        have hle := stp_le hd
        rw [List.length_drop] at hle
        rw [lw_item_eq ha hL, Option.bind_some, appT_ok (by unfold LIM; omega), Option.bind_some]
        refine ⟨_, rfl, ⟨a + (stp (s.drop a)).2, by simp, by omega, ?_, by simp; omega⟩, by simp; omega⟩
        rw [← h3, its_cons hd, List.append_assoc, List.drop_drop]
        simp
      · left
        exact ⟨by simp [ha], by omega⟩) 5000 ([], 0) ⟨0, rfl, Nat.zero_le _, by simp, Nat.le_refl _⟩ (by simp; omega)
  rw [h1, Option.bind_some]
  obtain ⟨a, e1, e2, e3, e4⟩ := h2
  have : a = s.length := by rw [e1] at h3; omega
  subst this
  rw [List.drop_length, its_nil, List.append_nil] at e3
  rw [e3]
/-! ### readers -/
theorem each_len : ∀ (p : Int) (s : Ts), (each p s).length = s.length
  | _, [] => rfl
  | p, c :: s => by simp [each, each_len (p + 1) s]
theorem told_eq (K : Ts) (p : Int) (n : Nat) (hn : n ≤ K.length) (hK : K.length ≤ LIM) : t_Reader_told ⟨K, p⟩ (n : Int) = some (each p (K.take n), ⟨K.drop n, p + n⟩) := by
  unfold t_Reader_told
  dsimp only
  rw [slS_ok hK, Option.bind_some, cut_to (by omega), Option.bind_some, Int.toNat_natCast]
  have main : ∀ (s : Ts) (q : Int) (acc : List Im), acc.length + s.length ≤ LIM → foldT (fun (s2 : OReader × (List (Int × Ts × Ts))) (sign : Ts) => (((t_sign_item s2.1.place sign).bind fun v3 => (appT s2.2 v3))).bind fun u4 => some ({ s2.1 with place := s2.1.place + (1 : Int) }, u4)) (chars s) (⟨K, q⟩, acc) = some (⟨K, q + s.length⟩, acc ++ each q s) := by
    intro s
    induction s with
    | nil => intro q acc _; simp [chars, each]
    | cons c s ih =>
      intro q acc h
      show foldT _ ([c] :: chars s) _ = _
      rw [foldT_cons, sign_item_1, Option.bind_some, appT_ok (by simp at h ⊢; omega), Option.bind_some]
      simp only [Option.bind_some]
      rw [ih (q + 1) _ (by simp at h ⊢; omega)]
      simp [each]
      omega
  have h2 := main (K.take n) p [] (by rw [List.length_take]; simp; omega)
  rw [h2, Option.bind_some, slS_ok hK, Option.bind_some, cut_from (by omega), Int.toNat_natCast]
  have e : (List.take n K).length = n := by rw [List.length_take]; omega
  rw [e]; simp
theorem col_in {c : Char} : (c ∈ ['a', 'b', 'c', 'd', 'e', 'f', 'g', 'h', '.']) ↔ isCol c = true := by unfold isCol cols; simp
theorem take_eq (K : Ts) (p : Int) (c : Char) (hK : K = [] ∨ hld K = true) : t_Reader_take ⟨K, p⟩ [c] = some ((sure p (K ++ [c])).1, ⟨(sure p (K ++ [c])).2, p + K.length + 1 - (sure p (K ++ [c])).2.length⟩) := by
  have tl : ∀ (K : Ts) (n : Nat), n ≤ K.length → K.length ≤ 4 → t_Reader_told ⟨K, p⟩ (n : Int) = some (each p (K.take n), ⟨K.drop n, p + n⟩) := fun K n h1 h2 => told_eq K p n h1 (lim_lt (by omega))
  have t1 : ∀ q : Int, t_Reader_told ⟨[c], q⟩ 1 = some (each q [c], ⟨[], q + 1⟩) := fun q => by
    have := told_eq [c] q 1 (by simp) (lim_lt (by simp))
    exact this
  have sg : ∀ q : Int, c ≠ '[' → sure q [c] = ([(q, (sgI c).1, (sgI c).2)], []) := fun q hc => by
    rw [sure_cons (by simp) (by simp [hld, hc]), stp_other hc]
    simp [sure_nil]
  have sb : ∀ q : Int, sure q ['['] = ([], ['[']) := fun q => sure_hld (by decide)
  unfold t_Reader_take
  dsimp only
  rcases hK with rfl | hK
  · -- nothing is held
    by_cases hb : c = '['
    · subst hb
      rw [List.nil_append, sb]
      simp [catS, t_mark_item, t_begins_mark, memT, lenS]
    · have h0 : t_Reader_told ⟨([] : Ts), p⟩ 0 = some ([], ⟨[], p⟩) := by simpa [each] using tl [] 0 (by simp) (by simp)
      rw [List.nil_append, sg p hb]
      simp [catS, t_mark_item, t_begins_mark, memT, lenS, h0, hb, t1, each, catL]
  · have one : ∀ (q : Int) (d : Char) (r : Ts), d ≠ '[' → sure q (d :: r) = ((q, (sgI d).1, (sgI d).2) :: (sure (q + 1) r).1, (sure (q + 1) r).2) := fun q d r hd => by
      rw [sure_cons (by simp) (by simp [hld, hd]), stp_other hd]; simp
    have br : ∀ (q : Int) (r : Ts), hld ('[' :: r) = false → stp ('[' :: r) = ((kSign, ['[']), 1) → sure q ('[' :: r) = ((q, kSign, ['[']) :: (sure (q + 1) r).1, (sure (q + 1) r).2) := fun q r h1 h2 => by
      rw [sure_cons (by simp) h1, h2]; simp
    have hsl : isCol '/' = false := by decide
    have cl : ∀ d : Char, t_is_colour [d] = some (isCol d) := is_colour_1
    rcases hld_cases hK with rfl | rfl | ⟨k, hk, rfl⟩ | ⟨k, hk, rfl⟩
    · have h1 := tl ['['] 1 (by simp) (by simp)
      simp [each] at h1
      by_cases c1 : c = ']'
      · subst c1
        rw [show (['['] ++ [']'] : Ts) = ['[', ']'] from rfl, sure_cons (by simp) (by decide)]
        simp [stp, sure_nil, catS, LIM, t_mark_item, lenS, kPlain]
        all_goals omega
      · by_cases c2 : c = '['
        · subst c2
          rw [show (['['] ++ ['['] : Ts) = ['[', '['] from rfl, sure_cons (by simp) (by decide)]
          simp [stp, sure_nil, catS, LIM, t_mark_item, lenS, kSign]
          all_goals omega
        · by_cases c3 : c = '/'
          · subst c3
            rw [show (['['] ++ ['/'] : Ts) = ['[', '/'] from rfl, sure_hld (by decide)]
            simp [catS, LIM, t_mark_item, t_begins_mark, memT, lenS]
            all_goals omega
          · cases c4 : isCol c with
            | true =>
              rw [show (['['] ++ [c] : Ts) = ['[', c] from rfl, sure_hld (by simp [hld, isColO, c4])]
              simp [catS, LIM, t_mark_item, t_begins_mark, memT, lenS, ixS, c1, c2, c3, cl, c4]
              all_goals omega
            | false =>
              rw [show (['['] ++ [c] : Ts) = ['[', c] from rfl, br p [c] (by simp [hld, isColO, c3, c4]) (by simp [stp, isColO, c1, c2]), sg _ c2]
              simp [catS, catL, LIM, t_mark_item, t_begins_mark, memT, lenS, ixS, c1, c2, c3, cl, c4, h1, t1, each, sgI, kSign]
              all_goals omega
    · have h1 := tl ['[', '/'] 2 (by simp) (by simp)
      simp [each] at h1
      cases c4 : isCol c with
      | true =>
        rw [show (['[', '/'] ++ [c] : Ts) = ['[', '/', c] from rfl, sure_hld (by simp [hld, isColO, c4])]
        have := col_ne c4
        simp [catS, LIM, t_mark_item, t_begins_mark, memT, lenS, ixS, slS, cut_to, cl, c4, this, hsl]
        all_goals omega
      | false =>
        rw [show (['[', '/'] ++ [c] : Ts) = ['[', '/', c] from rfl, br p ['/', c] (by simp [hld, isColO, c4]) (by simp [stp, isColO, isCol, cols]), one _ _ _ (by decide)]
        by_cases c2 : c = '['
        · subst c2
          rw [sb]
          simp [catS, catL, LIM, t_mark_item, t_begins_mark, memT, lenS, ixS, slS, cut_to, cl, c4, h1, t1, each, sgI, kSign, hsl]
          all_goals omega
        · rw [sg _ c2]
          simp [catS, catL, LIM, t_mark_item, t_begins_mark, memT, lenS, ixS, slS, cut_to, cl, c4, h1, t1, each, c2, sgI, kSign, hsl]
          all_goals omega
    · have hn := col_ne hk
      have h1 := tl ['[', k] 2 (by simp) (by simp)
      simp [each] at h1
      by_cases c1 : c = ']'
      · subst c1
        rw [show (['[', k] ++ [']'] : Ts) = ['[', k, ']'] from rfl, sure_cons (by simp) (by simp [hld, isColO, hn])]
        simp [stp, sure_nil, isColO, hn, hk, catS, LIM, t_mark_item, lenS, ixS, cl, kInk]
        all_goals omega
      · rw [show (['[', k] ++ [c] : Ts) = ['[', k, c] from rfl, br p [k, c] (by simp [hld, isColO, hn]) (by simp [stp, isColO, hn, c1]), one _ _ _ hn.1]
        by_cases c2 : c = '['
        · subst c2
          rw [sb]
          simp [catS, catL, LIM, t_mark_item, t_begins_mark, memT, lenS, ixS, slS, cut_to, cl, hk, h1, t1, each, hn, sgI, kSign]
          all_goals omega
        · rw [sg _ c2]
          simp [catS, catL, LIM, t_mark_item, t_begins_mark, memT, lenS, ixS, slS, cut_to, cl, hk, h1, t1, each, hn, c1, c2, sgI, kSign]
          all_goals omega
    · have hn := col_ne hk
      have h1 := tl ['[', '/', k] 3 (by simp) (by simp)
      simp [each] at h1
      by_cases c1 : c = ']'
      · subst c1
        rw [show (['[', '/', k] ++ [']'] : Ts) = ['[', '/', k, ']'] from rfl, sure_cons (by simp) (by simp [hld])]
        simp [stp, sure_nil, isColO, hn, hk, catS, LIM, t_mark_item, lenS, ixS, slS, cut_to, cl, kGround]
        all_goals omega
      · rw [show (['[', '/', k] ++ [c] : Ts) = ['[', '/', k, c] from rfl, br p ['/', k, c] (by simp [hld]) (by simp [stp, isColO, hn, c1]), one _ _ _ (by decide), one _ _ _ hn.1]
        by_cases c2 : c = '['
        · subst c2
          rw [sb]
          simp [catS, catL, LIM, t_mark_item, t_begins_mark, memT, lenS, ixS, slS, cut_to, cl, hk, h1, t1, each, hn, sgI, kSign]
          all_goals omega
        · rw [sg _ c2]
          simp [catS, catL, LIM, t_mark_item, t_begins_mark, memT, lenS, ixS, slS, cut_to, cl, hk, h1, t1, each, hn, c1, c2, sgI, kSign]
          all_goals omega
theorem sure_len : ∀ (n : Nat) (p : Int) (s : Ts), s.length ≤ n → (sure p s).1.length + (sure p s).2.length ≤ s.length := by
  intro n
  induction n with
  | zero =>
    intro p s h
    have : s = [] := List.length_eq_zero_iff.mp (by omega)
    subst this; simp [sure_nil]
  | succ n ih =>
    intro p s h
    by_cases hs : s = []
    · subst hs; simp [sure_nil]
    · cases hh : hld s with
      | true => rw [sure_hld hh]; simp
      | false =>
        have hp := stp_pos s
        have hl := stp_le hs
        have := ih (p + (stp s).2) (s.drop (stp s).2) (by rw [List.length_drop]; omega)
        rw [List.length_drop] at this
        rw [sure_cons hs hh, List.length_cons]
        dsimp only
        omega
/-- a reader is fed a text -/
theorem feed_eq (K : Ts) (p : Int) (s : Ts) (hK : K = [] ∨ hld K = true) (hs : ∀ c ∈ s, okC c = true) (hl : s.length ≤ 900000) : t_Reader_feed ⟨K, p⟩ s = some ((sure p (K ++ s)).1, ⟨(sure p (K ++ s)).2, p + K.length + s.length - (sure p (K ++ s)).2.length⟩) := by
  unfold t_Reader_feed
  rw [checked_ok hs, Option.bind_some]
  dsimp only
  have main : ∀ (s : Ts) (K : Ts) (q : Int) (acc : List Im), (K = [] ∨ hld K = true) → acc.length + K.length + s.length ≤ 990000 →
      foldT (fun (s2 : OReader × (List (Int × Ts × Ts))) (sign : Ts) => (((t_Reader_take s2.1 sign).bind fun r4 => (catL s2.2 r4.1).bind fun z5 => some (r4, z5))).bind fun u6 => some (u6.1.2, u6.2)) (chars s) (⟨K, q⟩, acc) = some (⟨(sure q (K ++ s)).2, q + K.length + s.length - (sure q (K ++ s)).2.length⟩, acc ++ (sure q (K ++ s)).1) := by
    intro s
    induction s with
    | nil =>
      intro K q acc hK _
      have : sure q K = ([], K) := by
        rcases hK with rfl | hK
        · exact sure_nil q
        · exact sure_hld hK
      simp [chars, this]
      try omega
    | cons c s ih =>
      intro K q acc hK h
      have hlen := sure_len _ q (K ++ [c]) (Nat.le_refl _)
      have hr := sure_rest _ q (K ++ [c]) (Nat.le_refl _)
      have happ := sure_app _ q (K ++ [c]) s (Nat.le_refl _)
      rw [List.length_append, List.length_singleton] at hlen
      have hq : ((K ++ [c]).length : Int) = K.length + 1 := by simp
      rw [hq] at happ
      rw [List.append_assoc, List.singleton_append] at happ
      show foldT _ ([c] :: chars s) _ = _
      rw [foldT_cons, take_eq K q c hK, Option.bind_some]
      dsimp only
      have eq1 : q + ((K.length : Int) + 1) - ((sure q (K ++ [c])).2.length : Int) = q + K.length + 1 - (sure q (K ++ [c])).2.length := by omega
      rw [eq1] at happ
      rw [happ]
      generalize sure q (K ++ [c]) = R at *
      rw [List.length_cons] at h
      rw [catL_ok (by unfold LIM; omega), Option.bind_some, Option.bind_some, Option.bind_some]
      dsimp only
      rw [ih R.2 _ (acc ++ R.1) hr (by rw [List.length_append]; omega)]
      rw [List.append_assoc, List.length_cons]
      have eq2 : q + (K.length : Int) + 1 - (R.2.length : Int) + (R.2.length : Int) + (s.length : Int) = q + K.length + ((s.length + 1 : Nat) : Int) := by omega
      rw [eq2]
  have hK4 : K.length ≤ 3 := by
    rcases hK with rfl | hK
    · simp
    · exact (hld_len hK).1
  rw [main s K p [] hK (by simp; omega), Option.bind_some]
  simp
theorem finish_eq (K : Ts) (p : Int) (hl : K.length ≤ 900000) : t_Reader_finish ⟨K, p⟩ = some (each p K, ⟨[], p + K.length⟩) := by
  unfold t_Reader_finish
  dsimp only
  rw [lenS_ok (lim_lt (by omega)), Option.bind_some, told_eq K p K.length (Nat.le_refl _) (lim_lt (by omega)), Option.bind_some]
  simp
theorem items_of_eq {s : Ts} (hs : ∀ c ∈ s, okC c = true) (hl : s.length ≤ 400000) : t_items_of s = some (its 0 s) := by
  unfold t_items_of t_Reader_init
  simp only [Option.bind_some]
  have hf := feed_eq [] 0 s (.inl rfl) hs (by omega)
  simp only [List.nil_append, List.length_nil] at hf
  rw [hf, Option.bind_some]
  have h1 := sure_len _ 0 s (Nat.le_refl _)
  have h2 := its_sure _ 0 s (Nat.le_refl _)
  rw [finish_eq _ _ (by omega), Option.bind_some, catL_ok (by dsimp only; rw [each_len]; unfold LIM; omega), Option.bind_some, Option.bind_some, h2]
  simp
theorem same_eq (xs ys : List Im) : t_lw_same xs ys = some (decide (xs = ys)) := by
  unfold t_lw_same t_lw_whole
  by_cases h : xs.length = ys.length
  · rw [forT_unit (xs := xs)]
    · simp [h]
    · intro x hx; simp
  · have : xs ≠ ys := fun e => h (by rw [e])
    simp [h, this]
    omega
/-! ### what laws draw -/
theorem cell_eq (ns : List Int) (k : Nat) : t_lw_cell ns (k : Int) = some (ns.getD k 0) := by
  unfold t_lw_cell
  by_cases h : k < ns.length
  · simp [h, atI_nat h]
  · simp [h]
theorem mix_ex (c : Int) (k : Int) (h0 : 0 ≤ k) (hk : k ≤ 1000000) : ∃ v, t_lw_mix c k = some v ∧ 0 ≤ v ∧ v < 1000000000 := by
  unfold t_lw_mix
  by_cases hc : (1000000000000000000 : Int) < c
  · rw [if_pos (by simpa using hc)]
    dsimp only
    rw [rngT_ok (by omega) (by omega), Option.bind_some]
    obtain ⟨s, h1, _⟩ := foldT_inv (g := fun (s1 : Int) (turn : Int) => some (s1 / 1000000000)) (fun _ => True) ((List.range k.toNat).map fun (k : Nat) => (k : Int)) c trivial fun s x _ _ => ⟨_, rfl, trivial⟩
    rw [h1]
    exact ⟨_, rfl, by omega, by omega⟩
  · rw [if_neg (by simpa using hc)]
    dsimp only
    rw [rngT_ok (by omega) (by omega), Option.bind_some]
    obtain ⟨s, h1, h2, h3⟩ := foldT_inv (g := fun (s1 : Int) (turn : Int) => some ((s1 * 48271 + 104729) % 2147483629)) (fun s => 0 ≤ s ∧ s < 4294967296) ((List.range (k + 2).toNat).map fun (k : Nat) => (k : Int)) (c % 2147483647 + 7919) ⟨by omega, by omega⟩ fun s x _ _ => ⟨_, rfl, by omega, by omega⟩
    rw [h1, Option.bind_some, mulT_ok (by omega) (by omega), Option.bind_some, Option.bind_some]
    refine ⟨_, rfl, ?_⟩
    generalize s * s = z
    exact ⟨by omega, by omega⟩
end OW
/-! MC: the texts that laws draw. -/
namespace OW
open PySem L2 LI
theorem ex_bind {α β : Type} {o : Option α} {k : α → Option β} {P : β → Prop} (Q : α → Prop) (h : ∃ x, o = some x ∧ Q x) (hk : ∀ x, Q x → ∃ y, k x = some y ∧ P y) : ∃ y, o.bind k = some y ∧ P y := by
  obtain ⟨x, rfl, hx⟩ := h
  exact hk x hx
def gd (s : Ts) : Bool := s.all okC && decide (1 ≤ s.length) && decide (s.length ≤ 9)
theorem cols_ok : ∀ k ∈ cols, okC k = true := by decide
def lwS : Ts := [' ', '!', '"', '#', '$', '&', '\'', '(', ')', '*', '+', ',', '-', '.', '/', '0', '1', '2', '3', '4', '5', '6', '7', '8', '9', ':', ';', '<', '=', '>', '?', '@', 'A', 'B', 'C', 'D', 'E', 'F', 'G', 'H', 'I', 'J', 'K', 'L', 'M', 'N', 'O', 'P', 'Q', 'R', 'S', 'T', 'U', 'V', 'W', 'X', 'Y', 'Z', '[', '\\', ']', '^', '_', '`', 'a', 'b', 'c', 'd', 'e', 'f', 'g', 'h', 'i', 'j', 'k', 'l', 'm', 'n', 'o', 'p', 'q', 'r', 's', 't', 'u', 'v', 'w', 'x', 'y', 'z', '{', '|', '}']
theorem lw_signs_eq : t_lw_signs = some lwS := by
  unfold t_lw_signs
  dsimp only
  rw [catS_ok (by decide)]; rfl
theorem lwS_ok : ∀ c ∈ lwS, isSg c = true := by decide
theorem lwS_len : lwS.length = 93 := by decide
theorem atI_all {α : Type} {xs : List α} {P : α → Prop} {i : Int} (h0 : 0 ≤ i) (h1 : i < (xs.length : Int)) (h : ∀ x ∈ xs, P x) : ∃ x, atI xs i = some x ∧ P x := by
  obtain ⟨x, h2, h3⟩ := atI_ok h0 h1
  exact ⟨x, h3, h x h2⟩
theorem colour_ex {v : Int} : ∃ k ∈ cols, ixS ['a', 'b', 'c', 'd', 'e', 'f', 'g', 'h', '.'] (v % 9) = some [k] := by
  have := mod_in v 9 (by omega)
  exact ixS_mem (s := ['a', 'b', 'c', 'd', 'e', 'f', 'g', 'h', '.']) (by simp [LIM]) this.1 (by simpa using this.2)
theorem token_ex (c : Int) : ∃ s, t_lw_token c = some s ∧ gd s = true := by
  obtain ⟨v2, e2, _, _⟩ := mix_ex c 2 (by omega) (by omega)
  obtain ⟨v0, e0, _, _⟩ := mix_ex c 0 (by omega) (by omega)
  obtain ⟨v1, e1, _, _⟩ := mix_ex c 1 (by omega) (by omega)
  obtain ⟨k, hk, ek⟩ := colour_ex (v := v2)
  have hok : okC k = true := cols_ok k hk
  unfold t_lw_token
  simp only [e2, e0, e1, Option.bind_some, ek]
  simp only [catS, catL, appT, LIM, List.length_cons, List.length_nil, List.length_append, List.cons_append, List.nil_append, Nat.reduceAdd, Nat.reduceLeDiff, Nat.reduceLT, if_true, Option.bind_some]
  have h93 := mod_in v1 93 (by omega)
  have h4 := mod_in v1 4 (by omega)
  have h3 := mod_in v1 3 (by omega)
  have h8 := mod_in v1 8 (by omega)
  have h18 := mod_in v1 18 (by omega)
  split
  · rw [lw_signs_eq, Option.bind_some]
    obtain ⟨d, hd, ed⟩ := ixS_mem (s := lwS) (by rw [lwS_len]; decide) h93.1 (by rw [lwS_len]; exact h93.2)
    exact ⟨_, ed, by simp [gd, okC, lwS_ok d hd]⟩
  · split
    · obtain ⟨d, hd, ed⟩ := ixS_mem (s := [' ', 'A', 'B', 'Z']) (by simp [LIM]) h4.1 (by simpa using h4.2)
      exact ⟨_, ed, by
        simp at hd
        rcases hd with rfl | rfl | rfl | rfl <;> decide⟩
    · split
      · exact ⟨_, rfl, by simp [gd, hok]; decide⟩
      · split
        · exact ⟨_, rfl, by simp [gd, hok]; decide⟩
        · split
          · exact atI_all h4.1 (by simpa using h4.2) (by decide)
          · split
            · exact atI_all h3.1 (by simpa using h3.2) (by decide)
            · split
              · exact ⟨_, rfl, by simp [gd, hok]⟩
              · split
                · rw [slS_ok (by simp [LIM]), cut_to (by omega)]
                  refine ⟨_, rfl, ?_⟩
                  obtain ⟨n, hn⟩ : ∃ n : Nat, (2 + v1 % 8).toNat = n ∧ 2 ≤ n ∧ n ≤ 9 := ⟨_, rfl, by omega, by omega⟩
                  rw [hn.1]
                  obtain ⟨_, h5, h6⟩ := hn
                  have : n = 2 ∨ n = 3 ∨ n = 4 ∨ n = 5 ∨ n = 6 ∨ n = 7 ∨ n = 8 ∨ n = 9 := by omega
                  rcases this with rfl | rfl | rfl | rfl | rfl | rfl | rfl | rfl <;> decide
                · refine atI_all h18.1 (by simpa using h18.2) ?_
                  have b1 : okC '[' = true := by decide
                  have b2 : okC ']' = true := by decide
                  have b3 : okC '/' = true := by decide
                  have b4 : okC '\n' = true := by decide
                  have b5 : okC '\t' = true := by decide
                  have b6 : okC 'i' = true := by decide
                  have b7 : okC 'A' = true := by decide
                  simp [gd, hok, b1, b2, b3, b4, b5, b6, b7]
/-- pieces put together -/
theorem join_nil : ∀ ss : List Ts, joinT [] ss = ss.flatten
  | [] => rfl
  | [s] => by simp [joinT]
  | s :: t :: ss => by
    have := join_nil (t :: ss)
    simp [joinT, this]
theorem flat_len {ss : List Ts} {n : Nat} (h : ∀ s ∈ ss, s.length ≤ n) : ss.flatten.length ≤ ss.length * n := by
  induction ss with
  | nil => simp
  | cons s ss ih =>
    have h1 := h s (by simp)
    have h2 := ih fun t ht => h t (by simp [ht])
    simp only [List.flatten_cons, List.length_append, List.length_cons, Nat.succ_mul]
    omega
theorem flat_sum (ss : List Ts) : (ss.map List.length).sum = ss.flatten.length := by rw [List.length_flatten]
theorem gd_ok {s : Ts} (h : gd s = true) : (∀ c ∈ s, okC c = true) ∧ 1 ≤ s.length ∧ s.length ≤ 9 := by
  unfold gd at h
  simp at h
  exact ⟨h.1.1, by have := h.1.2; omega, h.2⟩
/-- texts of tokens -/
theorem tokens_ex (ns : List Int) (hl : ns.length ≤ 63) : ∃ s, ((compT (fun (_ : Int) => some true) (fun (c : Int) => t_lw_token c) ns).bind fun v => joinS [] v) = some s ∧ (∀ c ∈ s, okC c = true) ∧ s.length ≤ 9 * ns.length := by
  obtain ⟨ts, h1, h2, h3⟩ := compT_ex (g := fun (c : Int) => t_lw_token c) (P := fun _ s => gd s = true) (xs := ns) (by unfold LIM; omega) fun c _ => token_ex c
  have h4 : ∀ s ∈ ts, gd s = true := fun s hs => by
    obtain ⟨_, _, h⟩ := h3 s hs; exact h
  have h5 := flat_len (ss := ts) (n := 9) fun s hs => (gd_ok (h4 s hs)).2.2
  refine ⟨ts.flatten, ?_, ?_, by omega⟩
  · rw [h1, Option.bind_some]
    unfold joinS
    rw [if_pos (by rw [flat_sum, List.length_nil, Nat.mul_zero, Nat.add_zero]; unfold LIM; omega), join_nil]
  · intro c hc
    obtain ⟨s, hs, hc⟩ := List.mem_flatten.mp hc
    exact (gd_ok (h4 s hs)).1 c hc
end OW
namespace OW
open PySem L2 LI
def t_Reader_held_text (self : OReader) : Option Ts :=
  some self.kept
def t_lw_is_held (rest : Ts) : Option Bool :=
  let colours : Ts := (['a', 'b', 'c', 'd', 'e', 'f', 'g', 'h', '.'] : Ts)
  if ((decide (rest = (['['] : Ts))) || (decide (rest = (['[', '/'] : Ts)))) = true then
  some true
  else
  (((lenS rest).bind fun v1_ => some (decide (v1_ = (2 : Int)))).bind fun v2_ => if v2_ = true then
  (((ixS rest (0 : Int)).bind fun v3_ => some (decide (v3_ = (['['] : Ts)))).bind fun v4_ => (if v4_ = true then ((ixS rest (1 : Int)).bind fun v5_ => (inS v5_ colours)) else some false))
  else
  (((lenS rest).bind fun v6_ => some (decide (v6_ = (3 : Int)))).bind fun v7_ => (if v7_ = true then (((slS none (some (2 : Int)) rest).bind fun v8_ => some (decide (v8_ = (['[', '/'] : Ts)))).bind fun v9_ => (if v9_ = true then ((ixS rest (2 : Int)).bind fun v10_ => (inS v10_ colours)) else some false)) else some false)))
def t_lw_sure (text : Ts) : Option ((List (Int × Ts × Ts)) × Ts) :=
  let items_here : (List (Int × Ts × Ts)) := ([] : (List (Int × Ts × Ts)))
  let at_ : Int := (0 : Int)
  (whilT (τ := ((List (Int × Ts × Ts)) × Ts)) (fun (s1_ : ((List (Int × Ts × Ts)) × Int)) => ((lenS text).bind fun v2_ => some (decide (s1_.2 < v2_)))) (fun (s1_ : ((List (Int × Ts × Ts)) × Int)) =>
  (((((lenS text).bind fun v3_ => some (v3_ - s1_.2)).bind fun v4_ => some (decide (v4_ < (4 : Int)))).bind fun v5_ => (if v5_ = true then ((slS (some s1_.2) none text).bind fun v6_ => (t_lw_is_held v6_)) else some false)).bind fun v7_ => if v7_ = true then
  (((slS (some s1_.2) none text).bind fun v8_ => some (s1_.1, v8_))).bind fun u9_ => some (.rt u9_ : (St ((List (Int × Ts × Ts)) × Int) ((List (Int × Ts × Ts)) × Ts)))
  else
  ((t_lw_item text s1_.2)).bind fun (u10_ : ((Int × Ts × Ts) × Int)) =>
  ((appT s1_.1 u10_.1)).bind fun (u11_ : (List (Int × Ts × Ts))) =>
  let at_ : Int := (s1_.2 + u10_.2)
  some (.nx (u11_, at_) : (St ((List (Int × Ts × Ts)) × Int) ((List (Int × Ts × Ts)) × Ts))))) 5000 (items_here, at_)).bind fun u => seqT u fun (s1_ : ((List (Int × Ts × Ts)) × Int)) => some (s1_.1, ([] : Ts))
end OW
namespace OW
open PySem L2 LI
structure OMaker where
  most : Int
  row : (List (Ts × Ts × Ts × Int))
  ink : Ts
  ground : Ts
  stale : Bool
  more : Bool
def t_checked_most (most : Int) : Option Unit :=
  if ((!true) || (false || (!(decide ((1 : Int) ≤ most) && decide (most ≤ (200 : Int)))))) = true then
  none
  else
  some ()
def t_Maker_init (most : Int) : Option OMaker :=
  ((t_checked_most most)).bind fun (u1_ : Unit) =>
  let u2_ : Int := most
  let u3_ : (List (Ts × Ts × Ts × Int)) := ([] : (List (Ts × Ts × Ts × Int)))
  let u4_ : Ts := ['.']
  let u5_ : Ts := ['.']
  let u6_ : Bool := false
  let u7_ : Bool := false
  some ({ most := u2_, row := u3_, ink := u4_, ground := u5_, stale := u6_, more := u7_ : OMaker })
def t_Maker_open_letters (self : OMaker) : Option (List (Ts × Ts × Ts × Int)) :=
  some self.row
def t_Maker_going_on (self : OMaker) : Option Bool :=
  some self.more
def t_Maker_make_plain (self : OMaker) : Option OMaker :=
  let u1_ : Ts := ['.']
  let u2_ : Ts := ['.']
  some ({ { self with ink := u1_ } with ground := u2_ })
def t_Maker_tell_part (self : OMaker) (word : Ts) : Option ((List ((List (Ts × Ts × Ts × Int)) × Ts)) × OMaker) :=
  let part : ((List (Ts × Ts × Ts × Int)) × Ts) := (self.row, word)
  let u1_ : (List (Ts × Ts × Ts × Int)) := ([] : (List (Ts × Ts × Ts × Int)))
  let u2_ : Bool := false
  let u3_ : Bool := (decide (word = ['m', 'o', 'r', 'e']))
  some (([part] : (List ((List (Ts × Ts × Ts × Int)) × Ts))), { { { self with row := u1_ } with stale := u2_ } with more := u3_ })
def t_Maker_put_sign (self : OMaker) (sign : Ts) (place : Int) : Option ((List ((List (Ts × Ts × Ts × Int)) × Ts)) × OMaker) :=
  let found : (List ((List (Ts × Ts × Ts × Int)) × Ts)) := ([] : (List ((List (Ts × Ts × Ts × Int)) × Ts)))
  ((if (decide ((List.length self.row : Int) = self.most)) = true then
  ((t_Maker_tell_part self ['m', 'o', 'r', 'e'])).bind fun (u1_ : ((List ((List (Ts × Ts × Ts × Int)) × Ts)) × OMaker)) =>
  some (u1_.2, u1_.1)
  else
  some (self, found) : Option (OMaker × (List ((List (Ts × Ts × Ts × Int)) × Ts))))).bind fun (s2_ : (OMaker × (List ((List (Ts × Ts × Ts × Int)) × Ts)))) =>
  ((appT s2_.1.row (sign, s2_.1.ink, s2_.1.ground, place))).bind fun (u3_ : (List (Ts × Ts × Ts × Int))) =>
  some (s2_.2, { s2_.1 with row := u3_ })
def t_Maker_put (self : OMaker) (item : (Int × Ts × Ts)) : Option ((List ((List (Ts × Ts × Ts × Int)) × Ts)) × OMaker) :=
  let u1_ : (Int × Ts × Ts) := item
  if (decide (u1_.2.1 = (['e', 'n', 'd'] : Ts))) = true then
  ((t_Maker_make_plain self)).bind fun (u2_ : OMaker) =>
  ((t_Maker_tell_part u2_ ['w', 'h', 'o', 'l', 'e'])).bind fun u3_ => some (u3_.1, u3_.2)
  else
  if (decide (u1_.2.1 = (['a', 'n', 'e', 'w'] : Ts))) = true then
  ((t_Maker_make_plain self)).bind fun (u4_ : OMaker) =>
  let u5_ : Bool := true
  some (([] : (List ((List (Ts × Ts × Ts × Int)) × Ts))), { u4_ with stale := u5_ })
  else
  ((if self.stale = true then
  let u6_ : (List (Ts × Ts × Ts × Int)) := ([] : (List (Ts × Ts × Ts × Int)))
  let u7_ : Bool := false
  some ({ { self with row := u6_ } with stale := u7_ })
  else
  some self : Option OMaker)).bind fun (s8_ : OMaker) =>
  if (decide (u1_.2.1 = (['s', 'i', 'g', 'n'] : Ts))) = true then
  ((t_Maker_put_sign s8_ u1_.2.2 u1_.1)).bind fun u9_ => some (u9_.1, u9_.2)
  else
  ((if (decide (u1_.2.1 = (['i', 'n', 'k'] : Ts))) = true then
  let u10_ : Ts := u1_.2.2
  some ({ s8_ with ink := u10_ })
  else
  ((if (decide (u1_.2.1 = (['g', 'r', 'o', 'u', 'n', 'd'] : Ts))) = true then
  let u11_ : Ts := u1_.2.2
  some ({ s8_ with ground := u11_ })
  else
  ((t_Maker_make_plain s8_)).bind fun (u12_ : OMaker) =>
  some u12_ : Option OMaker)).bind fun (s13_ : OMaker) =>
  some s13_ : Option OMaker)).bind fun (s14_ : OMaker) =>
  some (([] : (List ((List (Ts × Ts × Ts × Int)) × Ts))), s14_)
def t_Maker_finish (self : OMaker) : Option ((List ((List (Ts × Ts × Ts × Int)) × Ts)) × OMaker) :=
  ((t_Maker_make_plain self)).bind fun (u1_ : OMaker) =>
  if ((!decide (u1_.row = ([] : (List (Ts × Ts × Ts × Int))))) || u1_.more) = true then
  ((t_Maker_tell_part u1_ ['w', 'h', 'o', 'l', 'e'])).bind fun u2_ => some (u2_.1, u2_.2)
  else
  let u3_ : Bool := false
  some (([] : (List ((List (Ts × Ts × Ts × Int)) × Ts))), { u1_ with stale := u3_ })
def t_lw_put (state : ((List (Ts × Ts × Ts × Int)) × Bool × Ts × Ts)) (item : (Int × Ts × Ts)) (most_here : Int) : Option (((List (Ts × Ts × Ts × Int)) × Bool × Ts × Ts) × (List ((List (Ts × Ts × Ts × Int)) × Ts))) :=
  let u1_ : ((List (Ts × Ts × Ts × Int)) × Bool × Ts × Ts) := state
  let u2_ : (Int × Ts × Ts) := item
  let told : (List ((List (Ts × Ts × Ts × Int)) × Ts)) := ([] : (List ((List (Ts × Ts × Ts × Int)) × Ts)))
  if (decide (u2_.2.1 = (['a', 'n', 'e', 'w'] : Ts))) = true then
  some ((u1_.1, true, (['.'] : Ts), (['.'] : Ts)), ([] : (List ((List (Ts × Ts × Ts × Int)) × Ts))))
  else
  if (decide (u2_.2.1 = (['e', 'n', 'd'] : Ts))) = true then
  some ((([] : (List (Ts × Ts × Ts × Int))), false, (['.'] : Ts), (['.'] : Ts)), ([(u1_.1, (['w', 'h', 'o', 'l', 'e'] : Ts))] : (List ((List (Ts × Ts × Ts × Int)) × Ts))))
  else
  ((if u1_.2.1 = true then
  let row : (List (Ts × Ts × Ts × Int)) := ([] : (List (Ts × Ts × Ts × Int)))
  some row
  else
  some u1_.1 : Option (List (Ts × Ts × Ts × Int)))).bind fun (s3_ : (List (Ts × Ts × Ts × Int))) =>
  ((if ((decide (u2_.2.1 = (['s', 'i', 'g', 'n'] : Ts))) && (decide ((List.length s3_ : Int) = most_here))) = true then
  let told_2 : (List ((List (Ts × Ts × Ts × Int)) × Ts)) := ([(s3_, (['m', 'o', 'r', 'e'] : Ts))] : (List ((List (Ts × Ts × Ts × Int)) × Ts)))
  let row : (List (Ts × Ts × Ts × Int)) := ([] : (List (Ts × Ts × Ts × Int)))
  some (row, told_2)
  else
  some (s3_, told) : Option ((List (Ts × Ts × Ts × Int)) × (List ((List (Ts × Ts × Ts × Int)) × Ts))))).bind fun (s4_ : ((List (Ts × Ts × Ts × Int)) × (List ((List (Ts × Ts × Ts × Int)) × Ts)))) =>
  ((if (decide (u2_.2.1 = (['s', 'i', 'g', 'n'] : Ts))) = true then
  ((catL s4_.1 ([(u2_.2.2, u1_.2.2.1, u1_.2.2.2, u2_.1)] : (List (Ts × Ts × Ts × Int))))).bind fun (row : (List (Ts × Ts × Ts × Int))) =>
  some row
  else
  some s4_.1 : Option (List (Ts × Ts × Ts × Int)))).bind fun (s5_ : (List (Ts × Ts × Ts × Int))) =>
  ((if ((decide (u2_.2.1 = (['i', 'n', 'k'] : Ts))) || (decide (u2_.2.1 = (['p', 'l', 'a', 'i', 'n'] : Ts)))) = true then
  (((((lenS u2_.2.2).bind fun v6_ => some (some v6_)).bind fun v7_ => (slS v7_ none (['.'] : Ts))).bind fun v8_ => (catS u2_.2.2 v8_))).bind fun (ink : Ts) =>
  some ink
  else
  some u1_.2.2.1 : Option Ts)).bind fun (s9_ : Ts) =>
  ((if ((decide (u2_.2.1 = (['g', 'r', 'o', 'u', 'n', 'd'] : Ts))) || (decide (u2_.2.1 = (['p', 'l', 'a', 'i', 'n'] : Ts)))) = true then
  (((((lenS u2_.2.2).bind fun v10_ => some (some v10_)).bind fun v11_ => (slS v11_ none (['.'] : Ts))).bind fun v12_ => (catS u2_.2.2 v12_))).bind fun (ground : Ts) =>
  some ground
  else
  some u1_.2.2.2 : Option Ts)).bind fun (s13_ : Ts) =>
  some ((s5_, false, s9_, s13_), s4_.2)
def t_lw_letters_right (found : (List (Ts × Ts × Ts × Int))) (due : (List (Ts × Ts × Ts × Int))) : Option Bool :=
  if ((!true) || (!decide ((List.length found : Int) = (List.length due : Int)))) = true then
  some false
  else
  (forT (τ := Bool) (fun (s1_ : Unit) (letter : (Ts × Ts × Ts × Int)) =>
  ((if (!true) = true then some true else (if (!decide ((4 : Int) = (4 : Int))) = true then some true else ((t_lw_whole letter.2.2.2).bind fun v2_ => some (!v2_)))).bind fun v3_ => if v3_ = true then
  some (.rt false : (St Unit Bool))
  else
  (((compT (fun (thing : Ts) => (some true)) (fun (thing : Ts) => (some true)) ((fun t : (Ts × Ts × Ts) => ([t.1, t.2.1, t.2.2] : (List Ts))) (letter.1, letter.2.1, letter.2.2.1))).bind fun v4_ => some (!decide (v4_ = ([true, true, true] : (List Bool))))).bind fun v5_ => if v5_ = true then
  some (.rt false : (St Unit Bool))
  else
  some (.nx () : (St Unit Bool))))) found ()).bind fun u => seqT u fun (s1_ : Unit) => some (decide (found = due))
def t_lw_parts_right (found : (List ((List (Ts × Ts × Ts × Int)) × Ts))) (due : (List ((List (Ts × Ts × Ts × Int)) × Ts))) : Option Bool :=
  if ((!true) || (!decide ((List.length found : Int) = (List.length due : Int)))) = true then
  some false
  else
  (forT (τ := Bool) (fun (s1_ : Unit) (x2_ : (((List (Ts × Ts × Ts × Int)) × Ts) × ((List (Ts × Ts × Ts × Int)) × Ts))) =>
  if ((!true) || ((!decide ((2 : Int) = (2 : Int))) || (!decide (x2_.1.2 = x2_.2.2)))) = true then
  some (.rt false : (St Unit Bool))
  else
  (((t_lw_letters_right x2_.1.1 x2_.2.1).bind fun v3_ => some (!v3_)).bind fun v4_ => if v4_ = true then
  some (.rt false : (St Unit Bool))
  else
  some (.nx () : (St Unit Bool)))) (List.zip found due) ()).bind fun u => seqT u fun (s1_ : Unit) => some true
def t_lw_most (cell_here : Int) : Option Int :=
  ((((t_lw_mix cell_here (8 : Int)).bind fun v1_ => some (v1_ % 5)).bind fun v2_ => (atI ([(1 : Int), (2 : Int), (3 : Int), (4 : Int), (200 : Int)] : (List Int)) v2_))).bind fun (most_here : Int) =>
  ((((t_lw_mix cell_here (9 : Int)).bind fun v3_ => some (v3_ % 3)).bind fun v4_ => some (decide (v4_ = (1 : Int)))).bind fun v5_ => ((if v5_ = true then
  ((((t_lw_mix cell_here (10 : Int)).bind fun v6_ => some (v6_ % 200)).bind fun v7_ => some ((1 : Int) + v7_))).bind fun (most_here_2 : Int) =>
  some most_here_2
  else
  some most_here : Option Int)).bind fun (s8_ : Int) =>
  some s8_)
end OW
/-! ME: makers: parts of rows. -/
namespace OW
open PySem L2 LI
/-- what a hand tells: kinds and values -/
inductive GI : Ts → Ts → Prop
  | sign (c : Char) : isSg c = true → GI kSign [c]
  | ink (c : Char) : isCol c = true → GI kInk [c]
  | ground (c : Char) : isCol c = true → GI kGround [c]
  | plain : GI kPlain []
  | fin : GI kEnd []
  | anew : GI kAnew []
abbrev Lt := Ts × Ts × Ts × Int
abbrev Ls := List Lt
abbrev Pt := Ls × Ts
abbrev Ms := Ls × Bool × Ts × Ts
def dot : Ts := ['.']
def kMore : Ts := ['m', 'o', 'r', 'e']
def kWhole : Ts := ['w', 'h', 'o', 'l', 'e']
/-- one item more: what stands then, and what is told -/
def mkS (most : Int) (s : Ms) (i : Im) : Ms × List Pt :=
  if i.2.1 = kAnew then ((s.1, true, dot, dot), [])
  else if i.2.1 = kEnd then (([], false, dot, dot), [(s.1, kWhole)])
  else
    let row : Ls := if s.2.1 = true then [] else s.1
    if i.2.1 = kSign then
      if (row.length : Int) = most then (([(i.2.2, s.2.2.1, s.2.2.2, i.1)], false, s.2.2.1, s.2.2.2), [(row, kMore)])
      else ((row ++ [(i.2.2, s.2.2.1, s.2.2.2, i.1)], false, s.2.2.1, s.2.2.2), [])
    else if i.2.1 = kInk then ((row, false, i.2.2, s.2.2.2), [])
    else if i.2.1 = kGround then ((row, false, s.2.2.1, i.2.2), [])
    else ((row, false, dot, dot), [])
/-- the last part told was not the end of its row -/
def goS (g : Bool) (told : List Pt) : Bool := match told.getLast? with
  | some p => decide (p.2 = kMore)
  | none => g
def mkO (most : Int) (s : Ms) (g : Bool) : OMaker := ⟨most, s.1, s.2.2.1, s.2.2.2, s.2.1, g⟩
theorem mkS_len {most : Int} {s : Ms} {i : Im} (h1 : 1 ≤ most) (h : (s.1.length : Int) ≤ most) : ((mkS most s i).1.1.length : Int) ≤ most := by
  unfold mkS
  split
  · exact h
  · split
    · simp; omega
    · dsimp only
      have hr : (((if s.2.1 = true then [] else s.1) : Ls).length : Int) ≤ most := by
        split
        · simp; omega
        · exact h
      generalize (if s.2.1 = true then [] else s.1 : Ls) = row at hr ⊢
      split
      · split
        · simp; omega
        · simp; omega
      · split
        · exact hr
        · split <;> exact hr
theorem mkS_told (most : Int) (s : Ms) (i : Im) : (mkS most s i).2 = [] ∨ ∃ p, (mkS most s i).2 = [p] := by
  unfold mkS
  split
  · exact .inl rfl
  · split
    · exact .inr ⟨_, rfl⟩
    · dsimp only
      generalize (if s.2.1 = true then [] else s.1 : Ls) = row
      split
      · split
        · exact .inr ⟨_, rfl⟩
        · exact .inl rfl
      · split
        · exact .inl rfl
        · split <;> exact .inl rfl
theorem put_eq {most : Int} {s : Ms} {g : Bool} {i : Im} (h : GI i.2.1 i.2.2) (hm : most ≤ 200) (hl : (s.1.length : Int) ≤ most) :
    t_Maker_put (mkO most s g) i = some ((mkS most s i).2, mkO most (mkS most s i).1 (goS g (mkS most s i).2)) := by
  obtain ⟨p, k, v⟩ := i
  obtain ⟨row, stale, ink, ground⟩ := s
  dsimp only at h hl
  have hL : ∀ r : Ls, (r.length : Int) ≤ most → r.length < LIM := fun r hr => by unfold LIM; omega
  unfold t_Maker_put t_Maker_make_plain t_Maker_put_sign t_Maker_tell_part mkO
  cases h with
  | sign c hc =>
    cases stale with
    | true =>
      by_cases hz : (0 : Int) = most
      · subst hz; simp [kSign, kEnd, kAnew, mkS, goS, kMore, dot, appT, LIM]
      · simp [kSign, kEnd, kAnew, mkS, goS, kMore, dot, appT, LIM, hz]
    | false =>
      by_cases hz : (row.length : Int) = most
      · simp [kSign, kEnd, kAnew, mkS, goS, kMore, dot, appT, LIM, hz]
      · simp [kSign, kEnd, kAnew, mkS, goS, kMore, dot, hz, appT_ok (hL row hl)]
  | ink c hc => cases stale <;> simp [kSign, kEnd, kAnew, kInk, mkS, goS, dot]
  | ground c hc => cases stale <;> simp [kSign, kEnd, kAnew, kInk, kGround, mkS, goS, dot]
  | plain => cases stale <;> simp [kSign, kEnd, kAnew, kInk, kGround, kPlain, mkS, goS, dot]
  | fin => simp [kEnd, kAnew, mkS, goS, dot, kWhole, kMore]
  | anew => simp [kEnd, kAnew, mkS, goS, dot]
theorem lw_put_eq {most : Int} {s : Ms} {i : Im} (h : GI i.2.1 i.2.2) (hm : most ≤ 200) (hl : (s.1.length : Int) ≤ most) :
    t_lw_put s i most = some ((mkS most s i).1, (mkS most s i).2) := by
  obtain ⟨p, k, v⟩ := i
  obtain ⟨row, stale, ink, ground⟩ := s
  dsimp only at h hl
  have hL : ∀ r : Ls, (r.length : Int) ≤ most → r.length + 1 ≤ LIM := fun r hr => by unfold LIM; omega
  unfold t_lw_put
  cases h with
  | sign c hc =>
    cases stale with
    | true =>
      by_cases hz : (0 : Int) = most
      · subst hz; simp [kSign, kEnd, kAnew, mkS, kMore, dot, catL, LIM]
      · simp [kSign, kEnd, kAnew, mkS, kMore, dot, catL, LIM, hz]
    | false =>
      by_cases hz : (row.length : Int) = most
      · simp [kSign, kEnd, kAnew, mkS, kMore, dot, catL, LIM, hz]
      · simp [kSign, kEnd, kAnew, mkS, kMore, dot, hz, catL, hL row hl]
  | ink c hc => cases stale <;> simp [kSign, kEnd, kAnew, kInk, mkS, dot, lenS, slS, catS, LIM, cut_from]
  | ground c hc => cases stale <;> simp [kSign, kEnd, kAnew, kInk, kGround, mkS, dot, lenS, slS, catS, LIM, cut_from]
  | plain => cases stale <;> simp [kSign, kEnd, kAnew, kInk, kGround, kPlain, mkS, dot, lenS, slS, catS, LIM, cut_from]
  | fin => simp [kEnd, kAnew, mkS, dot, kWhole, kMore]
  | anew => simp [kEnd, kAnew, mkS, dot]
theorem letters_right_eq (xs : Ls) : t_lw_letters_right xs xs = some true := by
  unfold t_lw_letters_right t_lw_whole
  rw [forT_unit (xs := xs)]
  · simp
  · intro x hx
    rw [compT_map (f := fun _ => true) (by simp [LIM]) fun x _ => rfl]
    simp
theorem parts_right_eq (xs : List Pt) : t_lw_parts_right xs xs = some true := by
  unfold t_lw_parts_right
  rw [forT_unit (xs := List.zip xs xs)]
  · simp
  · intro x hx
    have h : x.1 = x.2 := by
      obtain ⟨i, hi, e⟩ := List.mem_iff_getElem.mp hx
      rw [← e]; simp
    obtain ⟨a, b⟩ := x
    cases h
    simp [letters_right_eq]
theorem finish_mk (most : Int) (s : Ms) (g : Bool) : t_Maker_finish (mkO most s g) = some (if s.1 ≠ [] ∨ g = true then [(s.1, kWhole)] else [], mkO most (if s.1 ≠ [] ∨ g = true then [] else s.1, false, dot, dot) false) := by
  obtain ⟨row, stale, ink, ground⟩ := s
  unfold t_Maker_finish t_Maker_make_plain t_Maker_tell_part mkO
  cases g with
  | true => simp [dot, kWhole]
  | false =>
    by_cases h : row = []
    · simp [h, dot]
    · simp [h, dot, kWhole]
theorem init_mk {most : Int} (h1 : 1 ≤ most) (h2 : most ≤ 200) : t_Maker_init most = some (mkO most ([], false, dot, dot) false) := by
  unfold t_Maker_init t_checked_most
  simp [h1, h2, mkO, dot]
end OW
namespace OW
open PySem L2 LI
def t_width_of (sign : Ts) : Option Int :=
  ((inS sign ['A', 'B', 'C', 'D', 'E', 'F', 'G', 'H', 'I', 'J', 'K', 'L', 'M', 'N', 'O', 'P', 'Q', 'R', 'S', 'T', 'U', 'V', 'W', 'X', 'Y', 'Z']).bind fun v1_ => if v1_ = true then
  some (2 : Int)
  else
  some (1 : Int))
def t_cells_of (letters : (List (Ts × Ts × Ts × Int))) : Option Int :=
  ((compT (fun (letter : (Ts × Ts × Ts × Int)) => (some true)) (fun (letter : (Ts × Ts × Ts × Int)) => (t_width_of letter.1)) letters).bind fun v1_ => some (List.sum v1_))
def t_bare_end (letters : (List (Ts × Ts × Ts × Int))) (lo : Int) (hi : Int) : Option Int :=
  (whileT (fun (s1_ : Int) => (if decide (lo < s1_) = true then (((atI letters (s1_ - (1 : Int))).bind fun v2_ => some v2_.1).bind fun v3_ => some (decide (v3_ = [' ']))) else some false)) (fun (s1_ : Int) =>
  let hi : Int := (s1_ - (1 : Int))
  some hi) 5000 hi).bind fun (s1_ : Int) =>
  some s1_
def t_cells_between (letters : (List (Ts × Ts × Ts × Int))) (lo : Int) (hi : Int) : Option Int :=
  ((((t_bare_end letters lo hi).bind fun v1_ => some (some v1_)).bind fun v2_ => some (cutL letters (some lo) v2_)).bind fun v3_ => (t_cells_of v3_))
def t_fits (letters : (List (Ts × Ts × Ts × Int))) (lo : Int) (hi : Int) (wide : Int) : Option Bool :=
  ((t_cells_between letters lo hi).bind fun v1_ => some (decide (v1_ ≤ wide)))
def t_breaks (letters : (List (Ts × Ts × Ts × Int))) : Option (List Int) :=
  let found : (List Int) := ([] : (List Int))
  ((rng2T (1 : Int) (List.length letters : Int)).bind fun v1_ => (foldT (fun (s2_ : (List Int)) (at_ : Int) =>
  (((((atI letters (at_ - (1 : Int))).bind fun v3_ => some v3_.1).bind fun v4_ => some (decide (v4_ = [' ']))).bind fun v5_ => (if v5_ = true then (((atI letters at_).bind fun v6_ => some v6_.1).bind fun v7_ => some (!decide (v7_ = [' ']))) else some false)).bind fun v8_ => ((if v8_ = true then
  ((appT s2_ at_)).bind fun (u9_ : (List Int)) =>
  some u9_
  else
  some s2_ : Option (List Int))).bind fun (s10_ : (List Int)) =>
  some s10_)) v1_ found).bind fun (s2_ : (List Int)) =>
  ((if decide ((0 : Int) < (List.length letters : Int)) = true then
  ((appT s2_ (List.length letters : Int))).bind fun (u11_ : (List Int)) =>
  some u11_
  else
  some s2_ : Option (List Int))).bind fun (s12_ : (List Int)) =>
  some s12_)
def t_taken (letters : (List (Ts × Ts × Ts × Int))) (lo : Int) (wide : Int) : Option Int :=
  let room : Int := wide
  let at_ : Int := lo
  (whileT (fun (s1_ : (Int × Int)) => (if decide (s1_.2 < (List.length letters : Int)) = true then ((((atI letters s1_.2).bind fun v2_ => some v2_.1).bind fun v3_ => (t_width_of v3_)).bind fun v4_ => some (decide (v4_ ≤ s1_.1))) else some false)) (fun (s1_ : (Int × Int)) =>
  (((((atI letters s1_.2).bind fun v5_ => some v5_.1).bind fun v6_ => (t_width_of v6_)).bind fun v7_ => some (s1_.1 - v7_))).bind fun (room : Int) =>
  let at_ : Int := (s1_.2 + (1 : Int))
  some (room, at_)) 5000 (room, at_)).bind fun (s1_ : (Int × Int)) =>
  some s1_.2
def t_reached (letters : (List (Ts × Ts × Ts × Int))) (spots : (List Int)) (lo : Int) (wide : Int) : Option (List Int) :=
  let found : (List Int) := ([] : (List Int))
  (forT (τ := (List Int)) (fun (s1_ : (List Int)) (spot : Int) =>
  ((if decide (lo < spot) = true then
  (((t_fits letters lo spot wide).bind fun v2_ => some (!v2_)).bind fun v3_ => if v3_ = true then
  some (.inr (.bk s1_ : (St (List Int) (List Int))) : ((List Int) ⊕ (St (List Int) (List Int))))
  else
  ((appT s1_ spot)).bind fun (u4_ : (List Int)) =>
  some (.inl u4_ : ((List Int) ⊕ (St (List Int) (List Int)))))
  else
  some (.inl s1_ : ((List Int) ⊕ (St (List Int) (List Int)))) : Option ((List Int) ⊕ (St (List Int) (List Int))))).bind fun u => seqT u fun (s5_ : (List Int)) => some (.nx s5_ : (St (List Int) (List Int)))) spots found).bind fun u => seqT u fun (s1_ : (List Int)) => if (decide (s1_ = ([] : (List Int)))) = true then
  ((t_taken letters lo wide).bind fun v6_ => some ([v6_] : (List Int)))
  else
  some s1_
def t_is_wide (thing : Int) : Option Bool :=
  some (true && ((!false) && (decide ((2 : Int) ≤ thing) && decide (thing ≤ (40 : Int)))))
def t_is_way (thing : Ts) : Option Bool :=
  some (true && (memT thing ([['c', 'u', 't'], ['c', 'e', 'l', 'l', 's'], ['w', 'o', 'r', 'd', 's'], ['e', 'v', 'e', 'n']] : List Ts)))
def t_line_end (letters : (List (Ts × Ts × Ts × Int))) (spots : (List Int)) (lo : Int) (wide : Int) (way : Ts) : Option Int :=
  if (decide (way = (['w', 'o', 'r', 'd', 's'] : Ts))) = true then
  ((t_reached letters spots lo wide).bind fun v1_ => (atI v1_ (-1 : Int)))
  else
  (t_taken letters lo wide)
def t_lw_cell_b (script : (List Int)) (k : Int) : Option Int :=
  if decide (k < (List.length script : Int)) = true then
  (atI script k)
  else
  ((((mulT k k).bind fun v1_ => some (v1_ * 7919)).bind fun v2_ => some (v2_ + (104729 : Int)))).bind fun (number : Int) =>
  ((if decide ((0 : Int) < (List.length script : Int)) = true then
  ((((((modT k (List.length script : Int)).bind fun v3_ => (atI script v3_)).bind fun v4_ => some (v4_ % 1000003)).bind fun v5_ => some (v5_ * 48271)).bind fun v6_ => some (number + v6_))).bind fun (number_2 : Int) =>
  some number_2
  else
  some number : Option Int)).bind fun (s7_ : Int) =>
  some ((s7_ * 48271) % 2147483647)
def t_lw_alike__3 (found : Int) (due_here : Int) : Option Bool :=
  if false = true then
  some (false && (decide (found = due_here)))
  else
  if true = true then
  some (true && ((!false) && (decide (found = due_here))))
  else
  if false = true then
  some (false && (decide (found = due_here)))
  else
  ((if false = true then
  if (!false) = true then
  some (.inr false : (Unit ⊕ Bool))
  else
  some (.inl () : (Unit ⊕ Bool))
  else
  if (!false) = true then
  some (.inr false : (Unit ⊕ Bool))
  else
  some (.inl () : (Unit ⊕ Bool)) : Option (Unit ⊕ Bool))).bind fun u => seqT u fun (s1_ : Unit) => none
def t_lw_alike__2 (found : (Int × Int)) (due_here : (Int × Int)) : Option Bool :=
  if false = true then
  some (false && (decide (found = due_here)))
  else
  if false = true then
  some (false && ((!false) && (decide (found = due_here))))
  else
  if false = true then
  some (false && (decide (found = due_here)))
  else
  ((if true = true then
  if (!true) = true then
  some (.inr false : (Unit ⊕ Bool))
  else
  some (.inl () : (Unit ⊕ Bool))
  else
  if (!false) = true then
  some (.inr false : (Unit ⊕ Bool))
  else
  some (.inl () : (Unit ⊕ Bool)) : Option (Unit ⊕ Bool))).bind fun u => seqT u fun (s1_ : Unit) => if (!decide ((2 : Int) = (2 : Int))) = true then
  some false
  else
  ((rngT (2 : Int)).bind fun v2_ => (forT (τ := Bool) (fun (s3_ : Unit) (k : Int) =>
  ((((atI ((fun t : (Int × Int) => ([t.1, t.2] : (List Int))) found) k).bind fun v4_ => (atI ((fun t : (Int × Int) => ([t.1, t.2] : (List Int))) due_here) k).bind fun v5_ => (t_lw_alike__3 v4_ v5_)).bind fun v6_ => some (!v6_)).bind fun v7_ => if v7_ = true then
  some (.rt false : (St Unit Bool))
  else
  some (.nx () : (St Unit Bool)))) v2_ ()).bind fun u => seqT u fun (s3_ : Unit) => some true)
def t_lw_alike (found : (List (Int × Int))) (due_here : (List (Int × Int))) : Option Bool :=
  if false = true then
  some (false && (decide (found = due_here)))
  else
  if false = true then
  some (false && ((!false) && (decide (found = due_here))))
  else
  if false = true then
  some (false && (decide (found = due_here)))
  else
  ((if false = true then
  if (!false) = true then
  some (.inr false : (Unit ⊕ Bool))
  else
  some (.inl () : (Unit ⊕ Bool))
  else
  if (!true) = true then
  some (.inr false : (Unit ⊕ Bool))
  else
  some (.inl () : (Unit ⊕ Bool)) : Option (Unit ⊕ Bool))).bind fun u => seqT u fun (s1_ : Unit) => if (!decide ((List.length found : Int) = (List.length due_here : Int))) = true then
  some false
  else
  ((rngT (List.length due_here : Int)).bind fun v2_ => (forT (τ := Bool) (fun (s3_ : Unit) (k : Int) =>
  ((((atI found k).bind fun v4_ => (atI due_here k).bind fun v5_ => (t_lw_alike__2 v4_ v5_)).bind fun v6_ => some (!v6_)).bind fun v7_ => if v7_ = true then
  some (.rt false : (St Unit Bool))
  else
  some (.nx () : (St Unit Bool)))) v2_ ()).bind fun u => seqT u fun (s3_ : Unit) => some true)
def t_lw_stream (cell_here : Int) (many : Int) : Option (List Int) :=
  let number : Int := ((((cell_here % 2147483647) + (7919 : Int)) * 48271) + (104729 : Int))
  let rest : Int := cell_here
  let found : (List Int) := ([] : (List Int))
  ((rngT many).bind fun v1_ => (foldT (fun (s2_ : (Int × Int × (List Int))) (k : Int) =>
  ((if decide ((1000000000000000000 : Int) < cell_here) = true then
  ((appT s2_.2.2 (s2_.2.1 % 1000000000))).bind fun (u3_ : (List Int)) =>
  let rest : Int := (s2_.2.1 / 1000000000)
  some (s2_.1, rest, u3_)
  else
  let number : Int := (((s2_.1 * 48271) + (104729 : Int)) % 2147483629)
  (((((mulT number number).bind fun v4_ => some (v4_ % 998244353)).bind fun v5_ => some (v5_ / 11)).bind fun v6_ => (appT s2_.2.2 v6_))).bind fun (u7_ : (List Int)) =>
  some (number, s2_.2.1, u7_) : Option (Int × Int × (List Int)))).bind fun (s8_ : (Int × Int × (List Int))) =>
  some (s8_.1, s8_.2.1, s8_.2.2)) v1_ (number, rest, found)).bind fun (s2_ : (Int × Int × (List Int))) =>
  some s2_.2.2)
def t_lw_run (xs : (List Int)) : Option Ts :=
  let small : Ts := (['a', 'b', 'c', 'd', 'e', 'f', 'g', 'h', 'i', 'j', 'k', 'l', 'm', 'n', 'o', 'p', 'q', 'r', 's', 't', 'u', 'v', 'w', 'x', 'y', 'z'] : Ts)
  let great : Ts := (['A', 'B', 'C', 'D', 'E', 'F', 'G', 'H', 'I', 'J', 'K', 'L', 'M', 'N', 'O', 'P', 'Q', 'R', 'S', 'T', 'U', 'V', 'W', 'X', 'Y', 'Z'] : Ts)
  let other : Ts := (['!', '"', '#', '$', '&', '\'', '(', ')', '*', '+', ',', '-', '.', '/', '0', '1', '2', '3', '4', '5', '6', '7', '8', '9', ':', ';', '<', '=', '>', '?', '@', '[', '\\', ']', '^', '_', '`', '{', '|', '}'] : Ts)
  (((atI xs (0 : Int)).bind fun v1_ => some (v1_ % 8))).bind fun (way : Int) =>
  ((((atI xs (1 : Int)).bind fun v2_ => (atI ([(4 : Int), (6 : Int), (9 : Int), (40 : Int), (4 : Int), (3 : Int), (1 : Int), (2 : Int)] : (List Int)) way).bind fun v3_ => (modT v2_ v3_)).bind fun v4_ => some ((1 : Int) + v4_))).bind fun (many : Int) =>
  ((((catS small great).bind fun v5_ => some ([small, small, v5_, small, great, ([' '] : Ts), ([' '] : Ts), other] : (List Ts))).bind fun v6_ => (atI v6_ way))).bind fun (signs : Ts) =>
  ((((rngT many).bind fun v7_ => (compT (fun (k : Int) => (some true)) (fun (k : Int) => ((((atI xs (2 : Int)).bind fun v8_ => some (v8_ + (7 * k))).bind fun v9_ => (lenS signs).bind fun v10_ => (modT v9_ v10_)).bind fun v11_ => (ixS signs v11_))) v7_)).bind fun v12_ => (joinS ([] : Ts) v12_))).bind fun (text : Ts) =>
  (((((atI xs (3 : Int)).bind fun v13_ => some (v13_ % 5)).bind fun v14_ => some (v14_ / 2)).bind fun v15_ => (repS ([' '] : Ts) v15_)).bind fun v16_ => (catS text v16_))
def t_lw_letters (script : (List Int)) (at_ : Int) (most : Int) : Option (List (Ts × Ts × Ts × Int)) :=
  let letters_here : (List (Ts × Ts × Ts × Int)) := ([] : (List (Ts × Ts × Ts × Int)))
  ((((t_lw_cell_b script at_).bind fun v1_ => (t_lw_mix v1_ (0 : Int))).bind fun v2_ => some (v2_ % 1000))).bind fun (place : Int) =>
  ((rngT (max (1 : Int) (min (40 : Int) ((List.length script : Int) - at_)))).bind fun v3_ => (foldT (fun (s4_ : ((List (Ts × Ts × Ts × Int)) × Int)) (k : Int) =>
  (((t_lw_cell_b script (at_ + k)).bind fun v5_ => (t_lw_stream v5_ (7 : Int)))).bind fun (xs : (List Int)) =>
  (((t_lw_run xs).bind fun v6_ => some (chars v6_)).bind fun v7_ => (foldT (fun (s8_ : ((List (Ts × Ts × Ts × Int)) × Int)) (sign : Ts) =>
  ((if decide ((List.length s8_.1 : Int) < most) = true then
  ((((((atI xs (4 : Int)).bind fun v9_ => some (v9_ % 9)).bind fun v10_ => (ixS (['a', 'b', 'c', 'd', 'e', 'f', 'g', 'h', '.'] : Ts) v10_)).bind fun v11_ => (((atI xs (5 : Int)).bind fun v12_ => some (v12_ % 9)).bind fun v13_ => (ixS (['a', 'b', 'c', 'd', 'e', 'f', 'g', 'h', '.'] : Ts) v13_)).bind fun v14_ => some (sign, v11_, v14_, s8_.2)).bind fun v15_ => (appT s8_.1 v15_))).bind fun (u16_ : (List (Ts × Ts × Ts × Int))) =>
  some u16_
  else
  some s8_.1 : Option (List (Ts × Ts × Ts × Int)))).bind fun (s17_ : (List (Ts × Ts × Ts × Int))) =>
  ((((atI xs (6 : Int)).bind fun v18_ => some (v18_ % 3)).bind fun v19_ => some ((s8_.2 + (1 : Int)) + v19_))).bind fun (place : Int) =>
  some (s17_, place)) v7_ (s4_.1, s4_.2)).bind fun (s8_ : ((List (Ts × Ts × Ts × Int)) × Int)) =>
  some (s8_.1, s8_.2))) v3_ (letters_here, place)).bind fun (s4_ : ((List (Ts × Ts × Ts × Int)) × Int)) =>
  (((((t_lw_cell_b script (0 : Int)).bind fun v20_ => (t_lw_mix v20_ (9 : Int))).bind fun v21_ => some (v21_ % 9)).bind fun v22_ => some (decide (v22_ = (4 : Int)))).bind fun v23_ => ((if v23_ = true then
  let letters_here : (List (Ts × Ts × Ts × Int)) := ([] : (List (Ts × Ts × Ts × Int)))
  some letters_here
  else
  some s4_.1 : Option (List (Ts × Ts × Ts × Int)))).bind fun (s24_ : (List (Ts × Ts × Ts × Int))) =>
  some s24_))
def t_lw_wide (script : (List Int)) : Option Int :=
  ((t_lw_cell_b script (1 : Int))).bind fun (cell_here : Int) =>
  (((t_lw_mix cell_here (7 : Int)).bind fun v1_ => (((t_lw_mix cell_here (8 : Int)).bind fun v2_ => some (v2_ % 4)).bind fun v3_ => (atI ([(4 : Int), (9 : Int), (9 : Int), (39 : Int)] : (List Int)) v3_)).bind fun v4_ => (modT v1_ v4_)).bind fun v5_ => some ((2 : Int) + v5_))
def t_lw_taken (letters_here : (List (Ts × Ts × Ts × Int))) (lo : Int) (wide_here : Int) : Option Int :=
  let great : Ts := (['A', 'B', 'C', 'D', 'E', 'F', 'G', 'H', 'I', 'J', 'K', 'L', 'M', 'N', 'O', 'P', 'Q', 'R', 'S', 'T', 'U', 'V', 'W', 'X', 'Y', 'Z'] : Ts)
  let at_ : Int := lo
  let room : Int := wide_here
  (whileT (fun (s1_ : (Int × Int)) => (if decide (s1_.1 < (List.length letters_here : Int)) = true then ((((((atI letters_here s1_.1).bind fun v2_ => some v2_.1).bind fun v3_ => (inS v3_ great)).bind fun v4_ => some (b01 v4_)).bind fun v5_ => some ((1 : Int) + v5_)).bind fun v6_ => some (decide (v6_ ≤ s1_.2))) else some false)) (fun (s1_ : (Int × Int)) =>
  ((((((atI letters_here s1_.1).bind fun v7_ => some v7_.1).bind fun v8_ => (inS v8_ great)).bind fun v9_ => some (b01 v9_)).bind fun v10_ => some ((s1_.2 - (1 : Int)) - v10_))).bind fun (room : Int) =>
  let at_ : Int := (s1_.1 + (1 : Int))
  some (at_, room)) 5000 (at_, room)).bind fun (s1_ : (Int × Int)) =>
  some s1_.1
end OW
namespace OW
open PySem L2 LI
structure OEven where
  row : (List (Ts × Ts × Ts × Int))
  wide : Int
  spots : (List Int)
def t_Even_cost_between (self : OEven) (lo : Int) (hi : Int) : Option Int :=
  if (decide (hi = (List.length self.row : Int))) = true then
  some (0 : Int)
  else
  (((t_cells_between self.row lo hi).bind fun v1_ => some (self.wide - v1_))).bind fun (free : Int) =>
  (mulT free free)
def t_Even_moves_from (self : OEven) (node : (Int × Int)) : Option (List (Int × Ts × (Int × Int))) :=
  let lo : Int := node.1
  if (decide (lo = (List.length self.row : Int))) = true then
  some ([] : (List (Int × Ts × (Int × Int))))
  else
  ((t_reached self.row self.spots lo self.wide)).bind fun (found : (List Int)) =>
  (compT (fun (hi : Int) => (some true)) (fun (hi : Int) => ((t_Even_cost_between self lo hi).bind fun v1_ => (strT hi).bind fun v2_ => some (v1_, v2_, (hi, (0 : Int))))) found)
def t_cheapest (trail : OEven) (prices : (List ((Int × Int) × (Option Int)))) (node : (Int × Int)) : Option (Option Int) :=
  ((getT prices node)).bind fun (found : (Option Int)) =>
  (((t_Even_moves_from trail node).bind fun v1_ => some v1_).bind fun v2_ => (foldT (fun (s3_ : (Option Int)) (x4_ : (Int × Ts × (Int × Int))) =>
  ((getT prices x4_.2.2)).bind fun (rest : (Option Int)) =>
  ((if (Option.isSome rest) = true then (if (Option.isNone s3_) = true then some true else ((rest.bind fun v5_ => some (x4_.1 + v5_)).bind fun v6_ => s3_.bind fun v7_ => some (decide (v6_ < v7_)))) else some false).bind fun v8_ => ((if v8_ = true then
  (((rest.bind fun v9_ => some (x4_.1 + v9_)).bind fun v10_ => some (some v10_))).bind fun (found : (Option Int)) =>
  some found
  else
  some s3_ : Option (Option Int))).bind fun (s11_ : (Option Int)) =>
  some s11_)) v2_ found).bind fun (s3_ : (Option Int)) =>
  some s3_)
def t_settle (trail : OEven) (prices : (List ((Int × Int) × (Option Int)))) (here : (List (Int × Int))) : Option (List ((Int × Int) × (Option Int))) :=
  let falls : Bool := true
  (whileT (fun (s1_ : ((List ((Int × Int) × (Option Int))) × Bool)) => (some s1_.2)) (fun (s1_ : ((List ((Int × Int) × (Option Int))) × Bool)) =>
  let falls : Bool := false
  (foldT (fun (s2_ : ((List ((Int × Int) × (Option Int))) × Bool)) (node : (Int × Int)) =>
  ((t_cheapest trail s2_.1 node)).bind fun (found : (Option Int)) =>
  (((getT s2_.1 node).bind fun v3_ => some (!decide (found = v3_))).bind fun v4_ => ((if v4_ = true then
  (some found).bind fun u5_ => ((some node)).bind fun i6_ => (putC s2_.1 i6_ u5_).bind fun y7_ =>
  let falls : Bool := true
  some (y7_, falls)
  else
  some (s2_.1, s2_.2) : Option ((List ((Int × Int) × (Option Int))) × Bool))).bind fun (s8_ : ((List ((Int × Int) × (Option Int))) × Bool)) =>
  some (s8_.1, s8_.2))) here (s1_.1, falls)).bind fun (s2_ : ((List ((Int × Int) × (Option Int))) × Bool)) =>
  some (s2_.1, s2_.2)) 5000 (prices, falls)).bind fun (s1_ : ((List ((Int × Int) × (Option Int))) × Bool)) =>
  some s1_.1
def t_Even_nodes_at (self : OEven) (at_ : Int) : Option (List (Int × Int)) :=
  some ([(at_, (0 : Int))] : (List (Int × Int)))
def t_Even_last_at (self : OEven) : Option Int :=
  some (List.length self.row : Int)
def t_Even_is_end (self : OEven) (node : (Int × Int)) : Option Bool :=
  some (decide (node.1 = (List.length self.row : Int)))
def t_priced (trail : OEven) : Option (List ((Int × Int) × (Option Int))) :=
  let prices : (List ((Int × Int) × (Option Int))) := ([] : (List ((Int × Int) × (Option Int))))
  ((((t_Even_last_at trail).bind fun v1_ => some (v1_ + (1 : Int))).bind fun v2_ => (rngT v2_)).bind fun v3_ => (foldT (fun (s4_ : (List ((Int × Int) × (Option Int)))) (back : Int) =>
  ((((t_Even_last_at trail).bind fun v5_ => some (v5_ - back)).bind fun v6_ => (t_Even_nodes_at trail v6_))).bind fun (here : (List (Int × Int))) =>
  (foldT (fun (s7_ : (List ((Int × Int) × (Option Int)))) (node : (Int × Int)) =>
  (some ((fun _ => none) ())).bind fun u8_ => ((some node)).bind fun i9_ => (putC s7_ i9_ u8_).bind fun y10_ =>
  ((t_Even_is_end trail node).bind fun v11_ => ((if v11_ = true then
  (some (some (0 : Int))).bind fun u12_ => ((some node)).bind fun i13_ => (putC y10_ i13_ u12_).bind fun y14_ =>
  some y14_
  else
  some y10_ : Option (List ((Int × Int) × (Option Int))))).bind fun (s15_ : (List ((Int × Int) × (Option Int)))) =>
  some s15_)) here s4_).bind fun (s7_ : (List ((Int × Int) × (Option Int)))) =>
  ((t_settle trail s7_ here)).bind fun (u16_ : (List ((Int × Int) × (Option Int)))) =>
  some u16_) v3_ prices).bind fun (s4_ : (List ((Int × Int) × (Option Int)))) =>
  some s4_)
def t_Even_init (letters : (List (Ts × Ts × Ts × Int))) (wide : Int) : Option OEven :=
  let u1_ : (List (Ts × Ts × Ts × Int)) := letters
  let u2_ : Int := wide
  ((t_breaks u1_)).bind fun (u3_ : (List Int)) =>
  some ({ row := u1_, wide := u2_, spots := u3_ : OEven })
def t_Even_first_node (self : OEven) : Option (Int × Int) :=
  some ((0 : Int), (0 : Int))
def t_even (letters : (List (Ts × Ts × Ts × Int))) (wide : Int) : Option (List (Int × Int)) :=
  if (decide ((List.length letters : Int) = (0 : Int))) = true then
  some ([((0 : Int), (0 : Int))] : (List (Int × Int)))
  else
  ((t_Even_init letters wide)).bind fun (trail : OEven) =>
  ((t_priced trail)).bind fun (prices : (List ((Int × Int) × (Option Int)))) =>
  let found : (List (Int × Int)) := ([] : (List (Int × Int)))
  ((t_Even_first_node trail)).bind fun (node : (Int × Int)) =>
  (whileT (fun (s1_ : ((List (Int × Int)) × (Int × Int))) => ((t_Even_is_end trail s1_.2).bind fun v2_ => some (!v2_))) (fun (s1_ : ((List (Int × Int)) × (Int × Int))) =>
  ((((t_Even_moves_from trail s1_.2).bind fun v3_ => some v3_).bind fun v4_ => (compT (fun (move : (Int × Ts × (Int × Int))) => (((((getT prices move.2.2).bind fun x => x).bind fun v5_ => some (move.1 + v5_)).bind fun v6_ => some (some v6_)).bind fun v7_ => (getT prices s1_.2).bind fun v8_ => some (decide (v7_ = v8_)))) (fun (move : (Int × Ts × (Int × Int))) => (some move.2.2)) v4_))).bind fun (least : (List (Int × Int))) =>
  ((maxYT least)).bind fun (beyond : (Int × Int)) =>
  ((appT s1_.1 (s1_.2.1, beyond.1))).bind fun (u9_ : (List (Int × Int))) =>
  let node : (Int × Int) := beyond
  some (u9_, node)) 5000 (found, node)).bind fun (s1_ : ((List (Int × Int)) × (Int × Int))) =>
  some s1_.1
def t_fold (letters : (List (Ts × Ts × Ts × Int))) (wide : Int) (way : Ts) : Option (List (Int × Int)) :=
  ((((t_is_wide wide).bind fun v1_ => some (!v1_)).bind fun v2_ => (if v2_ = true then some true else ((t_is_way way).bind fun v3_ => some (!v3_)))).bind fun v4_ => if v4_ = true then
  none
  else
  if (decide (way = (['e', 'v', 'e', 'n'] : Ts))) = true then
  (t_even letters wide)
  else
  if (decide ((List.length letters : Int) = (0 : Int))) = true then
  some ([((0 : Int), (0 : Int))] : (List (Int × Int)))
  else
  ((t_breaks letters)).bind fun (spots : (List Int)) =>
  ((((t_line_end letters spots (0 : Int) wide way).bind fun v5_ => some ((0 : Int), v5_)).bind fun v6_ => some ([v6_] : (List (Int × Int))))).bind fun (found : (List (Int × Int))) =>
  (whileT (fun (s7_ : (List (Int × Int))) => (if (!decide (way = (['c', 'u', 't'] : Ts))) = true then (((atI s7_ (-1 : Int)).bind fun v8_ => some v8_.2).bind fun v9_ => some (decide (v9_ < (List.length letters : Int)))) else some false)) (fun (s7_ : (List (Int × Int))) =>
  (((atI s7_ (-1 : Int)).bind fun v10_ => some v10_.2)).bind fun (lo : Int) =>
  ((((t_line_end letters spots lo wide way).bind fun v11_ => some (lo, v11_)).bind fun v12_ => (appT s7_ v12_))).bind fun (u13_ : (List (Int × Int))) =>
  some u13_) 5000 found).bind fun (s7_ : (List (Int × Int))) =>
  some s7_)
def t_shown_of (letters : (List (Ts × Ts × Ts × Int))) (broad : Int) : Option (List (Ts × Ts × Ts × Int)) :=
  let shown : (List (Ts × Ts × Ts × Int)) := ([] : (List (Ts × Ts × Ts × Int)))
  let cells : Int := (0 : Int)
  (forT (τ := (List (Ts × Ts × Ts × Int))) (fun (s1_ : ((List (Ts × Ts × Ts × Int)) × Int)) (letter : (Ts × Ts × Ts × Int)) =>
  (((t_width_of letter.1).bind fun v2_ => some (s1_.2 + v2_))).bind fun (cells : Int) =>
  if decide (broad < cells) = true then
  some (.rt s1_.1 : (St ((List (Ts × Ts × Ts × Int)) × Int) (List (Ts × Ts × Ts × Int))))
  else
  ((appT s1_.1 letter)).bind fun (u3_ : (List (Ts × Ts × Ts × Int))) =>
  some (.nx (u3_, cells) : (St ((List (Ts × Ts × Ts × Int)) × Int) (List (Ts × Ts × Ts × Int))))) letters (shown, cells)).bind fun u => seqT u fun (s1_ : ((List (Ts × Ts × Ts × Int)) × Int)) => some s1_.1
def t_lines_from (letters : (List (Ts × Ts × Ts × Int))) (broad : Int) (way : Ts) : Option (List (List (Ts × Ts × Ts × Int))) :=
  let found : (List (List (Ts × Ts × Ts × Int))) := ([] : (List (List (Ts × Ts × Ts × Int))))
  (((t_fold letters broad way).bind fun v1_ => some v1_).bind fun v2_ => (foldT (fun (s3_ : (List (List (Ts × Ts × Ts × Int)))) (x4_ : (Int × Int)) =>
  (((t_shown_of (cutL letters (some x4_.1) (some x4_.2)) broad).bind fun v5_ => (appT s3_ v5_))).bind fun (u6_ : (List (List (Ts × Ts × Ts × Int)))) =>
  some u6_) v2_ found).bind fun (s3_ : (List (List (Ts × Ts × Ts × Int)))) =>
  some s3_)
def t_lines_of (parts : (List ((List (Ts × Ts × Ts × Int)) × Ts))) (letters : (List (Ts × Ts × Ts × Int))) (room : (Ts × Int × Int × Int × Int × Ts)) : Option (List (List (Ts × Ts × Ts × Int))) :=
  let u1_ : (Ts × Int × Int × Int × Int × Ts) := room
  ((compT (fun (x2_ : ((List (Ts × Ts × Ts × Int)) × Ts)) => (some true)) (fun (x2_ : ((List (Ts × Ts × Ts × Int)) × Ts)) => (some x2_.1)) parts)).bind fun (some_ : (List (List (Ts × Ts × Ts × Int)))) =>
  ((if (!decide (letters = ([] : (List (Ts × Ts × Ts × Int))))) = true then
  ((appT some_ letters)).bind fun (u3_ : (List (List (Ts × Ts × Ts × Int)))) =>
  some u3_
  else
  some some_ : Option (List (List (Ts × Ts × Ts × Int))))).bind fun (s4_ : (List (List (Ts × Ts × Ts × Int)))) =>
  let found : (List (List (Ts × Ts × Ts × Int))) := ([] : (List (List (Ts × Ts × Ts × Int))))
  (whileT (fun (s5_ : ((List (List (Ts × Ts × Ts × Int))) × (List (List (Ts × Ts × Ts × Int))))) => (some ((!decide (s5_.1 = ([] : (List (List (Ts × Ts × Ts × Int)))))) && decide ((List.length s5_.2 : Int) < u1_.2.2.2.1)))) (fun (s5_ : ((List (List (Ts × Ts × Ts × Int))) × (List (List (Ts × Ts × Ts × Int))))) =>
  ((((popT s5_.1).bind fun (r6_ : ((List (Ts × Ts × Ts × Int)) × (List (List (Ts × Ts × Ts × Int))))) => (some u1_.2.2.2.2.1).bind fun (r7_ : Int) => (some u1_.2.2.2.2.2).bind fun (r8_ : Ts) => (t_lines_from r6_.1 r7_ r8_).bind fun z9_ => some (z9_, r6_, r7_, r8_, ())).bind fun (r10_ : ((List (List (Ts × Ts × Ts × Int))) × ((List (Ts × Ts × Ts × Int)) × (List (List (Ts × Ts × Ts × Int)))) × Int × Ts × Unit)) => (some s5_.2).bind fun (r11_ : (List (List (Ts × Ts × Ts × Int)))) => (catL r10_.1 r11_).bind fun z12_ => some (z12_, r10_, r11_))).bind fun (u13_ : ((List (List (Ts × Ts × Ts × Int))) × ((List (List (Ts × Ts × Ts × Int))) × ((List (Ts × Ts × Ts × Int)) × (List (List (Ts × Ts × Ts × Int)))) × Int × Ts × Unit) × (List (List (Ts × Ts × Ts × Int))))) =>
  some (u13_.2.1.2.1.2, u13_.1)) 5000 (s4_, found)).bind fun (s5_ : ((List (List (Ts × Ts × Ts × Int))) × (List (List (Ts × Ts × Ts × Int))))) =>
  some (cutL s5_.2 (some (-u1_.2.2.2.1)) none)
end OW
namespace OW
open PySem L2 LI
def t_Maker_tell_part_b (self : OMaker) (word : Ts) : Option ((List ((List (Ts × Ts × Ts × Int)) × Ts)) × OMaker) :=
  (((some self.row).bind fun (r1_ : (List (Ts × Ts × Ts × Int))) => (some word).bind fun (r2_ : Ts) => some ((r1_, r2_), r1_, r2_, ()))).bind fun (u3_ : (((List (Ts × Ts × Ts × Int)) × Ts) × (List (Ts × Ts × Ts × Int)) × Ts × Unit)) =>
  let u4_ : (List (Ts × Ts × Ts × Int)) := ([] : (List (Ts × Ts × Ts × Int)))
  let u5_ : Bool := false
  let u6_ : Bool := (decide (word = ['m', 'o', 'r', 'e']))
  (((some u3_.1).bind fun (r7_ : ((List (Ts × Ts × Ts × Int)) × Ts)) => some (([r7_] : (List ((List (Ts × Ts × Ts × Int)) × Ts))), r7_, ()))).bind fun u8_ => some (u8_.1, { { { self with row := u4_ } with stale := u5_ } with more := u6_ })
def t_Maker_put_sign_b (self : OMaker) (sign : Ts) (place : Int) : Option ((List ((List (Ts × Ts × Ts × Int)) × Ts)) × OMaker) :=
  let found : (List ((List (Ts × Ts × Ts × Int)) × Ts)) := ([] : (List ((List (Ts × Ts × Ts × Int)) × Ts)))
  ((if (decide ((List.length self.row : Int) = self.most)) = true then
  ((t_Maker_tell_part_b self ['m', 'o', 'r', 'e'])).bind fun (u1_ : ((List ((List (Ts × Ts × Ts × Int)) × Ts)) × OMaker)) =>
  some (u1_.2, u1_.1)
  else
  some (self, found) : Option (OMaker × (List ((List (Ts × Ts × Ts × Int)) × Ts))))).bind fun (s2_ : (OMaker × (List ((List (Ts × Ts × Ts × Int)) × Ts)))) =>
  ((appT s2_.1.row (sign, s2_.1.ink, s2_.1.ground, place))).bind fun (u3_ : (List (Ts × Ts × Ts × Int))) =>
  some (s2_.2, { s2_.1 with row := u3_ })
def t_Maker_put_b (self : OMaker) (item : (Int × Ts × Ts)) : Option ((List ((List (Ts × Ts × Ts × Int)) × Ts)) × OMaker) :=
  let u1_ : (Int × Ts × Ts) := item
  if (decide (u1_.2.1 = (['e', 'n', 'd'] : Ts))) = true then
  ((t_Maker_make_plain self)).bind fun (u2_ : OMaker) =>
  ((t_Maker_tell_part_b u2_ ['w', 'h', 'o', 'l', 'e'])).bind fun u3_ => some (u3_.1, u3_.2)
  else
  if (decide (u1_.2.1 = (['a', 'n', 'e', 'w'] : Ts))) = true then
  ((t_Maker_make_plain self)).bind fun (u4_ : OMaker) =>
  let u5_ : Bool := true
  some (([] : (List ((List (Ts × Ts × Ts × Int)) × Ts))), { u4_ with stale := u5_ })
  else
  ((if self.stale = true then
  let u6_ : (List (Ts × Ts × Ts × Int)) := ([] : (List (Ts × Ts × Ts × Int)))
  let u7_ : Bool := false
  some ({ { self with row := u6_ } with stale := u7_ })
  else
  some self : Option OMaker)).bind fun (s8_ : OMaker) =>
  if (decide (u1_.2.1 = (['s', 'i', 'g', 'n'] : Ts))) = true then
  ((t_Maker_put_sign_b s8_ u1_.2.2 u1_.1)).bind fun u9_ => some (u9_.1, u9_.2)
  else
  ((if (decide (u1_.2.1 = (['i', 'n', 'k'] : Ts))) = true then
  let u10_ : Ts := u1_.2.2
  some ({ s8_ with ink := u10_ })
  else
  ((if (decide (u1_.2.1 = (['g', 'r', 'o', 'u', 'n', 'd'] : Ts))) = true then
  let u11_ : Ts := u1_.2.2
  some ({ s8_ with ground := u11_ })
  else
  ((t_Maker_make_plain s8_)).bind fun (u12_ : OMaker) =>
  some u12_ : Option OMaker)).bind fun (s13_ : OMaker) =>
  some s13_ : Option OMaker)).bind fun (s14_ : OMaker) =>
  some (([] : (List ((List (Ts × Ts × Ts × Int)) × Ts))), s14_)
def t_rows_of (text : Ts) (most : Int) : Option ((List ((List (Ts × Ts × Ts × Int)) × Ts)) × (List (Ts × Ts × Ts × Int))) :=
  ((t_Maker_init most)).bind fun (maker : OMaker) =>
  let parts : (List ((List (Ts × Ts × Ts × Int)) × Ts)) := ([] : (List ((List (Ts × Ts × Ts × Int)) × Ts)))
  (((t_items_of text).bind fun v1_ => some v1_).bind fun v2_ => (foldT (fun (s3_ : (OMaker × (List ((List (Ts × Ts × Ts × Int)) × Ts)))) (item : (Int × Ts × Ts)) =>
  (((t_Maker_put_b s3_.1 item).bind fun r4_ => (catL s3_.2 r4_.1).bind fun z5_ => some (r4_, z5_))).bind fun (u6_ : (((List ((List (Ts × Ts × Ts × Int)) × Ts)) × OMaker) × (List ((List (Ts × Ts × Ts × Int)) × Ts)))) =>
  some (u6_.1.2, u6_.2)) v2_ (maker, parts)).bind fun (s3_ : (OMaker × (List ((List (Ts × Ts × Ts × Int)) × Ts)))) =>
  (((some s3_.2).bind fun (r7_ : (List ((List (Ts × Ts × Ts × Int)) × Ts))) => (t_Maker_open_letters s3_.1).bind fun (r8_ : (List (Ts × Ts × Ts × Int))) => some ((r7_, r8_), r7_, r8_, ()))).bind fun u9_ => some u9_.1)
def t_lw_parts (items_here : (List (Int × Ts × Ts))) (most : Int) : Option ((List ((List (Ts × Ts × Ts × Int)) × Ts)) × (List (Ts × Ts × Ts × Int))) :=
  let parts_here : (List ((List (Ts × Ts × Ts × Int)) × Ts)) := ([] : (List ((List (Ts × Ts × Ts × Int)) × Ts)))
  let row : (List (Ts × Ts × Ts × Int)) := ([] : (List (Ts × Ts × Ts × Int)))
  let stale : Bool := false
  let colours : (List Ts) := ([(['.'] : Ts), (['.'] : Ts)] : (List Ts))
  (foldT (fun (s1_ : ((List ((List (Ts × Ts × Ts × Int)) × Ts)) × (List (Ts × Ts × Ts × Int)) × Bool × (List Ts))) (x2_ : (Int × Ts × Ts)) =>
  ((if (s1_.2.2.1 && ((!decide (x2_.2.1 = (['e', 'n', 'd'] : Ts))) && (!decide (x2_.2.1 = (['a', 'n', 'e', 'w'] : Ts))))) = true then
  let row : (List (Ts × Ts × Ts × Int)) := ([] : (List (Ts × Ts × Ts × Int)))
  let stale : Bool := false
  some (row, stale)
  else
  some (s1_.2.1, s1_.2.2.1) : Option ((List (Ts × Ts × Ts × Int)) × Bool))).bind fun (s3_ : ((List (Ts × Ts × Ts × Int)) × Bool)) =>
  ((if (decide (x2_.2.1 = (['s', 'i', 'g', 'n'] : Ts))) = true then
  ((if (decide ((List.length s3_.1 : Int) = most)) = true then
  ((appT s1_.1 (s3_.1, (['m', 'o', 'r', 'e'] : Ts)))).bind fun (u4_ : (List ((List (Ts × Ts × Ts × Int)) × Ts))) =>
  let row : (List (Ts × Ts × Ts × Int)) := ([] : (List (Ts × Ts × Ts × Int)))
  some (u4_, row)
  else
  some (s1_.1, s3_.1) : Option ((List ((List (Ts × Ts × Ts × Int)) × Ts)) × (List (Ts × Ts × Ts × Int))))).bind fun (s5_ : ((List ((List (Ts × Ts × Ts × Int)) × Ts)) × (List (Ts × Ts × Ts × Int)))) =>
  (((((atI s1_.2.2.2 (0 : Int)).bind fun v6_ => (atI s1_.2.2.2 (1 : Int)).bind fun v7_ => some (x2_.2.2, v6_, v7_, x2_.1)).bind fun v8_ => some ([v8_] : (List (Ts × Ts × Ts × Int)))).bind fun v9_ => (catL s5_.2 v9_))).bind fun (row : (List (Ts × Ts × Ts × Int))) =>
  some (s5_.1, row, s1_.2.2.2)
  else
  ((if (decide (x2_.2.1 = (['i', 'n', 'k'] : Ts))) = true then
  (some x2_.2.2).bind fun u10_ => ((some (0 : Int))).bind fun i11_ => (setT s1_.2.2.2 i11_ u10_).bind fun y12_ =>
  some y12_
  else
  ((if (decide (x2_.2.1 = (['g', 'r', 'o', 'u', 'n', 'd'] : Ts))) = true then
  (some x2_.2.2).bind fun u13_ => ((some (1 : Int))).bind fun i14_ => (setT s1_.2.2.2 i14_ u13_).bind fun y15_ =>
  some y15_
  else
  let colours : (List Ts) := ([(['.'] : Ts), (['.'] : Ts)] : (List Ts))
  some colours : Option (List Ts))).bind fun (s16_ : (List Ts)) =>
  some s16_ : Option (List Ts))).bind fun (s17_ : (List Ts)) =>
  some (s1_.1, s3_.1, s17_) : Option ((List ((List (Ts × Ts × Ts × Int)) × Ts)) × (List (Ts × Ts × Ts × Int)) × (List Ts)))).bind fun (s18_ : ((List ((List (Ts × Ts × Ts × Int)) × Ts)) × (List (Ts × Ts × Ts × Int)) × (List Ts))) =>
  ((if (decide (x2_.2.1 = (['a', 'n', 'e', 'w'] : Ts))) = true then
  let stale : Bool := true
  some stale
  else
  some s3_.2 : Option Bool)).bind fun (s19_ : Bool) =>
  ((if (decide (x2_.2.1 = (['e', 'n', 'd'] : Ts))) = true then
  ((appT s18_.1 (s18_.2.1, (['w', 'h', 'o', 'l', 'e'] : Ts)))).bind fun (u20_ : (List ((List (Ts × Ts × Ts × Int)) × Ts))) =>
  let row : (List (Ts × Ts × Ts × Int)) := ([] : (List (Ts × Ts × Ts × Int)))
  let stale : Bool := false
  some (u20_, row, stale)
  else
  some (s18_.1, s18_.2.1, s19_) : Option ((List ((List (Ts × Ts × Ts × Int)) × Ts)) × (List (Ts × Ts × Ts × Int)) × Bool))).bind fun (s21_ : ((List ((List (Ts × Ts × Ts × Int)) × Ts)) × (List (Ts × Ts × Ts × Int)) × Bool)) =>
  some (s21_.1, s21_.2.1, s21_.2.2, s18_.2.2)) items_here (parts_here, row, stale, colours)).bind fun (s1_ : ((List ((List (Ts × Ts × Ts × Int)) × Ts)) × (List (Ts × Ts × Ts × Int)) × Bool × (List Ts))) =>
  some (s1_.1, s1_.2.1)
def t_lw_piece (cell_here : Int) (ends : Bool) : Option Ts :=
  ((((t_lw_mix cell_here (1 : Int)).bind fun v1_ => some (v1_ % 9)).bind fun v2_ => (ixS (['a', 'b', 'c', 'd', 'e', 'f', 'g', 'h', '.'] : Ts) v2_))).bind fun (colour : Ts) =>
  (((t_lw_mix cell_here (0 : Int)).bind fun v3_ => some (v3_ % 9))).bind fun (way : Int) =>
  if decide (way < (2 : Int)) = true then
  ((catS (['['] : Ts) colour).bind fun v4_ => (catS v4_ (([']'] : Ts))))
  else
  if decide (way < (4 : Int)) = true then
  ((catS (['[', '/'] : Ts) colour).bind fun v5_ => (catS v5_ (([']'] : Ts))))
  else
  if (decide (way = (4 : Int))) = true then
  (((catS (['['] : Ts) colour).bind fun v6_ => (catS (['[', '/'] : Ts) colour).bind fun v7_ => some ([(['[', ']'] : Ts), (['[', '['] : Ts), v6_, v7_] : (List Ts))).bind fun v8_ => ((t_lw_mix cell_here (3 : Int)).bind fun v9_ => some (v9_ % 4)).bind fun v10_ => (atI v8_ v10_))
  else
  if ((decide (way = (5 : Int))) && ends) = true then
  some (['\n'] : Ts)
  else
  (((t_lw_signs.bind fun v11_ => ((t_lw_mix cell_here (4 : Int)).bind fun v12_ => some (v12_ % 93)).bind fun v13_ => (ixS v11_ v13_)).bind fun v14_ => some ([v14_, ([' '] : Ts), (['a'] : Ts), (['B'] : Ts)] : (List Ts))).bind fun v15_ => ((t_lw_mix cell_here (5 : Int)).bind fun v16_ => some (v16_ % 4)).bind fun v17_ => (atI v15_ v17_))
end OW
/-! MJ: the parts of a whole text. -/
namespace OW
open PySem L2 LI
theorem sgI_GI {c : Char} (h : okC c = true) : GI (sgI c).1 (sgI c).2 := by
  unfold sgI
  split
  · exact .fin
  · rename_i h1
    split
    · exact .anew
    · rename_i h2
      unfold okC at h
      simp only [h1, h2, decide_false, Bool.or_false] at h
      exact .sign c h
theorem stp_GI {s : Ts} (hs : ∀ c ∈ s, okC c = true) (hn : s ≠ []) : GI (stp s).1.1 (stp s).1.2 := by
  have hq : ∀ (k : Nat) (c : Char), s[k]? = some c → okC c = true := fun k c h => hs c (List.mem_of_getElem? h)
  unfold stp
  split
  · split
    · exact .plain
    · split
      · exact .sign '[' (by decide)
      · split
        · rename_i h
          cases e : s[1]? with
          | none => rw [e] at h; cases h.1
          | some c => rw [e] at h; exact .ink c h.1
        · split
          · rename_i h
            cases e : s[2]? with
            | none => rw [e] at h; cases h.2.1
            | some c => rw [e] at h; exact .ground c h.2.1
          · exact .sign '[' (by decide)
  · cases e : s[0]? with
    | none =>
      rw [List.getElem?_eq_none_iff] at e
      exact absurd (List.eq_nil_of_length_eq_zero (by omega)) hn
    | some c => exact sgI_GI (hq 0 c e)
theorem its_GI : ∀ (n : Nat) (p : Int) (s : Ts), s.length ≤ n → (∀ c ∈ s, okC c = true) → ∀ i ∈ its p s, GI i.2.1 i.2.2
  | n, p, s, h, hs, i, hi => by
    by_cases h1 : s = []
    · subst h1; rw [its_nil] at hi; cases hi
    · have hp := stp_pos s
      cases n with
      | zero => exact absurd (List.eq_nil_of_length_eq_zero (by omega)) h1
      | succ n =>
        rw [its_cons h1] at hi
        rcases List.mem_cons.mp hi with rfl | hi
        · exact stp_GI hs h1
        · exact its_GI n _ _ (by rw [List.length_drop]; omega) (fun c hc => hs c (List.mem_of_mem_drop hc)) i hi
/-- many items, one behind another -/
def mkA (most : Int) : Ms → List Im → Ms × List Pt
  | s, [] => (s, [])
  | s, i :: is => ((mkA most (mkS most s i).1 is).1, (mkS most s i).2 ++ (mkA most (mkS most s i).1 is).2)
theorem mkA_len (most : Int) : ∀ (is : List Im) (s : Ms), (mkA most s is).2.length ≤ is.length
  | [], s => Nat.le_refl _
  | i :: is, s => by
    unfold mkA
    have := mkA_len most is (mkS most s i).1
    have h1 : (mkS most s i).2.length ≤ 1 := by
      rcases mkS_told most s i with h | ⟨p, h⟩ <;> rw [h] <;> simp
    rw [List.length_append, List.length_cons]; omega
theorem put_b_eq (s : OMaker) (i : Im) : t_Maker_put_b s i = t_Maker_put s i := rfl
theorem put_all {most : Int} (h1 : 1 ≤ most) (hm : most ≤ 200) : ∀ (is : List Im) (s : Ms) (g : Bool) (P : List Pt), (∀ i ∈ is, GI i.2.1 i.2.2) → (s.1.length : Int) ≤ most → P.length + is.length ≤ LIM →
    foldT (fun (s3_ : (OMaker × (List Pt))) (item : Im) =>
  (((t_Maker_put_b s3_.1 item).bind fun r4_ => (catL s3_.2 r4_.1).bind fun z5_ => some (r4_, z5_))).bind fun (u6_ : (((List Pt) × OMaker) × (List Pt))) =>
  some (u6_.1.2, u6_.2)) is (mkO most s g, P) = some (mkO most (mkA most s is).1 (goS g (mkA most s is).2), P ++ (mkA most s is).2) ∧ (((mkA most s is).1.1.length : Int) ≤ most)
  | [], s, g, P, hi, hl, hP => ⟨by simp [foldT, mkA, goS], hl⟩
  | i :: is, s, g, P, hi, hl, hP => by
    rw [List.length_cons] at hP
    have hs1 : (mkS most s i).2.length ≤ 1 := by
      rcases mkS_told most s i with h | ⟨p, h⟩ <;> rw [h] <;> simp
    have ih := put_all h1 hm is (mkS most s i).1 (goS g (mkS most s i).2) (P ++ (mkS most s i).2) (fun j hj => hi j (List.mem_cons_of_mem _ hj)) (mkS_len h1 hl) (by rw [List.length_append]; omega)
    have hg : goS (goS g (mkS most s i).2) (mkA most (mkS most s i).1 is).2 = goS g ((mkS most s i).2 ++ (mkA most (mkS most s i).1 is).2) := by
      unfold goS
      cases hb : (mkA most (mkS most s i).1 is).2.getLast? with
      | none =>
        rw [List.getLast?_eq_none_iff] at hb
        rw [hb, List.append_nil]
      | some p => rw [List.getLast?_append, hb]; rfl
    unfold foldT
    rw [put_b_eq, put_eq (hi i List.mem_cons_self) hm hl]
    simp only [Option.bind_some]
    rw [catL_ok (by omega)]
    simp only [Option.bind_some]
    refine ⟨?_, ih.2⟩
    rw [ih.1, hg, List.append_assoc]
    rfl
def s00 : Ms := ([], false, dot, dot)
theorem rows_of_eq {text : Ts} {most : Int} (h1 : 1 ≤ most) (hm : most ≤ 200) (hs : ∀ c ∈ text, okC c = true) (hl : text.length ≤ 400000) : t_rows_of text most = some ((mkA most s00 (its 0 text)).2, (mkA most s00 (its 0 text)).1.1) := by
  have hle := its_len _ 0 text (Nat.le_refl _)
  obtain ⟨e, _⟩ := put_all h1 hm (its 0 text) s00 false [] (its_GI _ 0 text (Nat.le_refl _) hs) (by show ((0 : Nat) : Int) ≤ most; omega) (by simp only [List.length_nil]; unfold LIM; omega)
  unfold t_rows_of
  rw [init_mk h1 hm, Option.bind_some]
  dsimp only
  rw [items_of_eq hs hl, Option.bind_some, Option.bind_some]
  have e' := e
  unfold s00 at e'
  rw [show mkO most ([], false, dot, dot) false = mkO most s00 false from rfl, e, Option.bind_some]
  rfl
theorem put_law {most : Int} (hm : most ≤ 200) {s : Ms} {i : Im} (h : GI i.2.1 i.2.2) (hl : (s.1.length : Int) ≤ most) {P : List Pt} (hP : P.length + 2 ≤ LIM) : ∀ (A : List Pt × Ls × Bool × List Ts → Option (List Pt × Ls × Bool × List Ts)), (A = fun s1_ =>
  ((if (s1_.2.2.1 && ((!decide (i.2.1 = (['e', 'n', 'd'] : Ts))) && (!decide (i.2.1 = (['a', 'n', 'e', 'w'] : Ts))))) = true then
  let row : (List (Ts × Ts × Ts × Int)) := ([] : (List (Ts × Ts × Ts × Int)))
  let stale : Bool := false
  some (row, stale)
  else
  some (s1_.2.1, s1_.2.2.1) : Option ((List (Ts × Ts × Ts × Int)) × Bool))).bind fun (s3_ : ((List (Ts × Ts × Ts × Int)) × Bool)) =>
  ((if (decide (i.2.1 = (['s', 'i', 'g', 'n'] : Ts))) = true then
  ((if (decide ((List.length s3_.1 : Int) = most)) = true then
  ((appT s1_.1 (s3_.1, (['m', 'o', 'r', 'e'] : Ts)))).bind fun (u4_ : (List ((List (Ts × Ts × Ts × Int)) × Ts))) =>
  let row : (List (Ts × Ts × Ts × Int)) := ([] : (List (Ts × Ts × Ts × Int)))
  some (u4_, row)
  else
  some (s1_.1, s3_.1) : Option ((List ((List (Ts × Ts × Ts × Int)) × Ts)) × (List (Ts × Ts × Ts × Int))))).bind fun (s5_ : ((List ((List (Ts × Ts × Ts × Int)) × Ts)) × (List (Ts × Ts × Ts × Int)))) =>
  (((((atI s1_.2.2.2 (0 : Int)).bind fun v6_ => (atI s1_.2.2.2 (1 : Int)).bind fun v7_ => some (i.2.2, v6_, v7_, i.1)).bind fun v8_ => some ([v8_] : (List (Ts × Ts × Ts × Int)))).bind fun v9_ => (catL s5_.2 v9_))).bind fun (row : (List (Ts × Ts × Ts × Int))) =>
  some (s5_.1, row, s1_.2.2.2)
  else
  ((if (decide (i.2.1 = (['i', 'n', 'k'] : Ts))) = true then
  (some i.2.2).bind fun u10_ => ((some (0 : Int))).bind fun i11_ => (setT s1_.2.2.2 i11_ u10_).bind fun y12_ =>
  some y12_
  else
  ((if (decide (i.2.1 = (['g', 'r', 'o', 'u', 'n', 'd'] : Ts))) = true then
  (some i.2.2).bind fun u13_ => ((some (1 : Int))).bind fun i14_ => (setT s1_.2.2.2 i14_ u13_).bind fun y15_ =>
  some y15_
  else
  let colours : (List Ts) := ([(['.'] : Ts), (['.'] : Ts)] : (List Ts))
  some colours : Option (List Ts))).bind fun (s16_ : (List Ts)) =>
  some s16_ : Option (List Ts))).bind fun (s17_ : (List Ts)) =>
  some (s1_.1, s3_.1, s17_) : Option ((List ((List (Ts × Ts × Ts × Int)) × Ts)) × (List (Ts × Ts × Ts × Int)) × (List Ts)))).bind fun (s18_ : ((List ((List (Ts × Ts × Ts × Int)) × Ts)) × (List (Ts × Ts × Ts × Int)) × (List Ts))) =>
  ((if (decide (i.2.1 = (['a', 'n', 'e', 'w'] : Ts))) = true then
  let stale : Bool := true
  some stale
  else
  some s3_.2 : Option Bool)).bind fun (s19_ : Bool) =>
  ((if (decide (i.2.1 = (['e', 'n', 'd'] : Ts))) = true then
  ((appT s18_.1 (s18_.2.1, (['w', 'h', 'o', 'l', 'e'] : Ts)))).bind fun (u20_ : (List ((List (Ts × Ts × Ts × Int)) × Ts))) =>
  let row : (List (Ts × Ts × Ts × Int)) := ([] : (List (Ts × Ts × Ts × Int)))
  let stale : Bool := false
  some (u20_, row, stale)
  else
  some (s18_.1, s18_.2.1, s19_) : Option ((List ((List (Ts × Ts × Ts × Int)) × Ts)) × (List (Ts × Ts × Ts × Int)) × Bool))).bind fun (s21_ : ((List ((List (Ts × Ts × Ts × Int)) × Ts)) × (List (Ts × Ts × Ts × Int)) × Bool)) =>
  some (s21_.1, s21_.2.1, s21_.2.2, s18_.2.2)) →
  A (P, s.1, s.2.1, [s.2.2.1, s.2.2.2]) = some (P ++ (mkS most s i).2, (mkS most s i).1.1, (mkS most s i).1.2.1, [(mkS most s i).1.2.2.1, (mkS most s i).1.2.2.2]) := by
  rintro A rfl
  obtain ⟨p, k, v⟩ := i
  obtain ⟨row, stale, ink, ground⟩ := s
  dsimp only at h hl
  have a0 : ∀ x y : Ts, atI [x, y] 0 = some x := fun _ _ => rfl
  have a1 : ∀ x y : Ts, atI [x, y] 1 = some y := fun _ _ => rfl
  have b0 : ∀ x y z : Ts, setT [x, y] 0 z = some [z, y] := fun _ _ _ => rfl
  have b1 : ∀ x y z : Ts, setT [x, y] 1 z = some [x, z] := fun _ _ _ => rfl
  have hap : ∀ x : Pt, appT P x = some (P ++ [x]) := fun x => appT_ok (by omega)
  have hcr : ∀ x : Ls, x.length = 1 → catL row x = some (row ++ x) := fun x hx => catL_ok (by unfold LIM; omega)
  have hcn : ∀ x : Ls, x.length = 1 → catL [] x = some x := fun x hx => by rw [catL_ok (by simp [hx, LIM])]; rfl
  cases h with
  | sign c hc =>
    cases stale with
    | true =>
      by_cases hz : (0 : Int) = most
      · subst hz; simp [kSign, kEnd, kAnew, mkS, kMore, dot, a0, a1, hap, hcn]
      · simp [kSign, kEnd, kAnew, mkS, kMore, dot, a0, a1, hz, hap, hcn]
    | false =>
      by_cases hz : (row.length : Int) = most
      · simp [kSign, kEnd, kAnew, mkS, kMore, dot, a0, a1, hz, hap, hcn]
      · simp [kSign, kEnd, kAnew, mkS, kMore, dot, a0, a1, hz, hap, hcr]
  | ink c hc => cases stale <;> simp [kSign, kEnd, kAnew, kInk, mkS, dot, b0]
  | ground c hc => cases stale <;> simp [kSign, kEnd, kAnew, kInk, kGround, mkS, dot, b1]
  | plain => cases stale <;> simp [kSign, kEnd, kAnew, kInk, kGround, kPlain, mkS, dot]
  | fin => cases stale <;> simp [kEnd, kAnew, mkS, dot, kWhole, hap]
  | anew => cases stale <;> simp [kEnd, kAnew, mkS, dot]
theorem lw_parts_eq {most : Int} (h1 : 1 ≤ most) (hm : most ≤ 200) {is : List Im} (hi : ∀ i ∈ is, GI i.2.1 i.2.2) (hl : is.length ≤ 100000) : t_lw_parts is most = some ((mkA most s00 is).2, (mkA most s00 is).1.1) := by
  unfold t_lw_parts
  dsimp only
  have key : ∀ (g : List Pt × Ls × Bool × List Ts → Im → Option (List Pt × Ls × Bool × List Ts)), (∀ (s : Ms) (i : Im) (P : List Pt), GI i.2.1 i.2.2 → (s.1.length : Int) ≤ most → P.length + 2 ≤ LIM → g (P, s.1, s.2.1, [s.2.2.1, s.2.2.2]) i = some (P ++ (mkS most s i).2, (mkS most s i).1.1, (mkS most s i).1.2.1, [(mkS most s i).1.2.2.1, (mkS most s i).1.2.2.2])) → ∀ (is : List Im) (s : Ms) (P : List Pt), (∀ i ∈ is, GI i.2.1 i.2.2) → (s.1.length : Int) ≤ most → P.length + is.length ≤ 200000 → foldT g is (P, s.1, s.2.1, [s.2.2.1, s.2.2.2]) = some (P ++ (mkA most s is).2, (mkA most s is).1.1, (mkA most s is).1.2.1, [(mkA most s is).1.2.2.1, (mkA most s is).1.2.2.2]) := by
    intro g hg is
    induction is with
    | nil => intro s P _ _ _; simp [foldT, mkA]
    | cons i is ih =>
      intro s P hi hl hP
      rw [List.length_cons] at hP
      have hs1 : (mkS most s i).2.length ≤ 1 := by
        rcases mkS_told most s i with h | ⟨p, h⟩ <;> rw [h] <;> simp
      unfold foldT
      rw [hg s i P (hi i List.mem_cons_self) hl (by unfold LIM; omega), Option.bind_some, ih _ _ (fun j hj => hi j (List.mem_cons_of_mem _ hj)) (mkS_len h1 hl) (by rw [List.length_append]; omega)]
      rw [List.append_assoc]
      rfl
  refine (congrArg (Option.bind · _) (key _ ?_ is s00 [] hi ?_ ?_)).trans ?_
  · exact fun s i P h hl hP => put_law hm h hl hP _ rfl
  · show ((0 : Nat) : Int) ≤ most; omega
  · simp; omega
  · rw [List.nil_append]
    rfl
end OW
namespace LW
open PySem L2 LI OW
def t_law (script : (List Int)) : Option Bool :=
  (((((t_lw_cell script (0 : Int)).bind fun v1_ => (t_lw_mix v1_ (9 : Int))).bind fun v2_ => some (v2_ % 4)).bind fun v3_ => some (decide ((0 : Int) < v3_)))).bind fun (ends : Bool) =>
  (((compT (fun (cell_here : Int) => (some true)) (fun (cell_here : Int) => (t_lw_piece cell_here ends)) (cutL script none (some (60 : Int)))).bind fun v4_ => (joinS ([] : Ts) v4_))).bind fun (text : Ts) =>
  (((t_lw_items text).bind fun v5_ => (t_lw_parts v5_ (200 : Int)))).bind fun (due : ((List ((List (Ts × Ts × Ts × Int)) × Ts)) × (List (Ts × Ts × Ts × Int)))) =>
  ((t_rows_of text (200 : Int))).bind fun (found : ((List ((List (Ts × Ts × Ts × Int)) × Ts)) × (List (Ts × Ts × Ts × Int)))) =>
  if ((!true) || (!decide ((2 : Int) = (2 : Int)))) = true then
  some false
  else
  ((((t_lw_parts_right found.1 due.1).bind fun v6_ => some (!v6_)).bind fun v7_ => (if v7_ = true then some true else ((t_lw_letters_right found.2 due.2).bind fun v8_ => some (!v8_)))).bind fun v9_ => if v9_ = true then
  some false
  else
  (foldT (fun (s10_ : Unit) (x11_ : ((List (Ts × Ts × Ts × Int)) × Ts)) =>
  let u12_ : Unit := ()
  some ()) found.1 ()).bind fun (s10_ : Unit) =>
  let u13_ : Unit := ()
  ((t_rows_of text (200 : Int))).bind fun (again : ((List ((List (Ts × Ts × Ts × Int)) × Ts)) × (List (Ts × Ts × Ts × Int)))) =>
  ((t_lw_parts_right again.1 due.1).bind fun v14_ => (if v14_ = true then (t_lw_letters_right again.2 due.2) else some false)))
end LW
namespace LW
open PySem L2 PyProof.Rows LI
/-! ### what each def is worth -/
def kv_ENDS : List (List Nat × List Nat) := [([10], [101, 110, 100]), ([9], [97, 110, 101, 119])]
/-- is_sign: 0 thing -/
def m_is_sign : SM := (seqM (retM (upF (andM (isiM "str" (vM 0)) (andM (m2 eqD (mA lenD (consM (vM 0) nilM)) (kM (.int 1))) (chM leD leD (kM (.str [32])) (vM 0) (kM (.str [125]))))))) skipM)
def F_is_sign : FM := runM 1 [true] m_is_sign
/-- is_colour: 0 thing -/
def m_is_colour : SM := (seqM (retM (upF (andM (isiM "str" (vM 0)) (andM (m2 eqD (mA lenD (consM (vM 0) nilM)) (kM (.int 1))) (m2 inD (vM 0) (kM (.str [97, 98, 99, 100, 101, 102, 103, 104, 46]))))))) skipM)
def F_is_colour : FM := runM 1 [true] m_is_colour
/-- checked: 0 text, 1 at, 2 sign -/
def m_checked : SM := (seqM (ifM (notB (truM (isiM "str" (vM 0)))) (seqM noM' skipM) skipM)
  (seqM (forM (tupT (consT (nameT 1) (consT (nameT 2) nilT))) (seqM (ifM (andB (notB (truM (callM F_is_sign (consM (vM 2) nilM)))) (bM (m2 ninD (vM 2) (kM (.str [10, 9]))))) (seqM noM' skipM) skipM)
  skipM) [1, 2] (enumSM (vM 0)))
  skipM))
def F_checked : FM := runM 3 [true] m_checked
/-- sign_item: 0 place, 1 sign -/
def m_sign_item : SM := (seqM (ifM (bM (m1 (inK kv_ENDS) (vM 1))) (seqM (retM (upF (tupM (consM (vM 0) (consM (m1 (ixK kv_ENDS) (vM 1)) (consM (kM (.str [])) nilM)))))) skipM) skipM)
  (seqM (retM (upF (tupM (consM (vM 0) (consM (kM (.str [115, 105, 103, 110])) (consM (vM 1) nilM)))))) skipM))
def F_sign_item : FM := runM 2 [true, true] m_sign_item
/-- begins_mark: 0 text -/
def m_begins_mark : SM := (seqM (ifM (bM (m2 inD (vM 0) (tupM (consM (kM (.str [91])) (consM (kM (.str [91, 47])) nilM))))) (seqM (retM (upF (kM (.bl true)))) skipM) skipM)
  (seqM (ifM (andB (bM (m2 eqD (mA lenD (consM (vM 0) nilM)) (kM (.int 2)))) (bM (m2 eqD (m2 ixD (vM 0) (kM (.int 0))) (kM (.str [91]))))) (seqM (retM (upF (callM F_is_colour (consM (m2 ixD (vM 0) (kM (.int 1))) nilM)))) skipM) skipM)
  (seqM (retM (upF (andM (m2 eqD (mA lenD (consM (vM 0) nilM)) (kM (.int 3))) (andM (m2 eqD (slM (vM 0) noM (soM (kM (.int 2)))) (kM (.str [91, 47]))) (callM F_is_colour (consM (m2 ixD (vM 0) (kM (.int 2))) nilM)))))) skipM)))
def F_begins_mark : FM := runM 1 [true] m_begins_mark
/-- mark_item: 0 place, 1 text -/
def m_mark_item : SM := (seqM (ifM (bM (m2 eqD (vM 1) (kM (.str [91, 91])))) (seqM (retM (upF (tupM (consM (vM 0) (consM (kM (.str [115, 105, 103, 110])) (consM (kM (.str [91])) nilM)))))) skipM) skipM)
  (seqM (ifM (bM (m2 eqD (vM 1) (kM (.str [91, 93])))) (seqM (retM (upF (tupM (consM (vM 0) (consM (kM (.str [112, 108, 97, 105, 110])) (consM (kM (.str [])) nilM)))))) skipM) skipM)
  (seqM (ifM (andB (bM (m2 eqD (mA lenD (consM (vM 1) nilM)) (kM (.int 3)))) (andB (bM (m2 eqD (m2 ixD (vM 1) (kM (.int 0))) (kM (.str [91])))) (andB (truM (callM F_is_colour (consM (m2 ixD (vM 1) (kM (.int 1))) nilM))) (bM (m2 eqD (m2 ixD (vM 1) (kM (.int 2))) (kM (.str [93]))))))) (seqM (retM (upF (tupM (consM (vM 0) (consM (kM (.str [105, 110, 107])) (consM (m2 ixD (vM 1) (kM (.int 1))) nilM)))))) skipM) skipM)
  (seqM (ifM (andB (bM (m2 eqD (mA lenD (consM (vM 1) nilM)) (kM (.int 4)))) (andB (bM (m2 eqD (slM (vM 1) noM (soM (kM (.int 2)))) (kM (.str [91, 47])))) (andB (truM (callM F_is_colour (consM (m2 ixD (vM 1) (kM (.int 2))) nilM))) (bM (m2 eqD (m2 ixD (vM 1) (kM (.int 3))) (kM (.str [93]))))))) (seqM (retM (upF (tupM (consM (vM 0) (consM (kM (.str [103, 114, 111, 117, 110, 100])) (consM (m2 ixD (vM 1) (kM (.int 2))) nilM)))))) skipM) skipM)
  (seqM (retM (upF (kM .non))) skipM)))))
def F_mark_item : FM := runM 2 [true, true] m_mark_item
/-- Reader.__init__: 0 self -/
def m_Reader_init : SM := (seqM (fldM 3 "kept" (vL 0) (upF (kM (.str []))))
  (seqM (fldM 3 "place" (vL 0) (upF (kM (.int 0))))
  skipM))
def F_Reader_init : FM := runM 1 [true] m_Reader_init
/-- Reader.told: 0 self, 1 many, 2 found, 3 sign -/
def m_Reader_told : SM := (seqM (asgM (nameT 2) (upF (lstM nilM)))
  (seqM (forM (nameT 3) (seqM (exprM (appL (vL 2) (callM F_sign_item (consM (fldL 3 "place" (vL 0)).get (consM (vM 3) nilM)))))
  (seqM (fldM 3 "place" (vL 0) (upF (m2 addD (fldL 3 "place" (vL 0)).get (kM (.int 1)))))
  skipM)) [3] (itM (slM (fldL 3 "kept" (vL 0)).get noM (soM (vM 1)))))
  (seqM (fldM 3 "kept" (vL 0) (upF (slM (fldL 3 "kept" (vL 0)).get (soM (vM 1)) noM)))
  (seqM (retM (mvM (vL 2))) skipM))))
def F_Reader_told : FM := runM 4 [true, true] m_Reader_told
/-- Reader.take: 0 self, 1 sign, 2 whole, 3 found -/
def m_Reader_take : SM := (seqM (asgM (nameT 2) (upF (callM F_mark_item (consM (fldL 3 "place" (vL 0)).get (consM (m2 addD (fldL 3 "kept" (vL 0)).get (vM 1)) nilM)))))
  (seqM (ifM (bM (m2 nisD (vM 2) (kM .non))) (seqM (fldM 3 "place" (vL 0) (upF (m2 addD (m2 addD (fldL 3 "place" (vL 0)).get (mA lenD (consM (fldL 3 "kept" (vL 0)).get nilM))) (kM (.int 1)))))
  (seqM (fldM 3 "kept" (vL 0) (upF (kM (.str []))))
  (seqM (retM (upF (lstM (consM (vM 2) nilM)))) skipM))) skipM)
  (seqM (ifM (truM (callM F_begins_mark (consM (m2 addD (fldL 3 "kept" (vL 0)).get (vM 1)) nilM))) (seqM (fldM 3 "kept" (vL 0) (upF (m2 addD (fldL 3 "kept" (vL 0)).get (vM 1))))
  (seqM (retM (upF (lstM nilM))) skipM)) skipM)
  (seqM (asgM (nameT 3) (methM 3 "told" (vL 0) F_Reader_told (consM (mA lenD (consM (fldL 3 "kept" (vL 0)).get nilM)) nilM)))
  (seqM (fldM 3 "kept" (vL 0) (upR (vM 1)))
  (seqM (ifM (bM (m2 neD (vM 1) (kM (.str [91])))) (seqM (exprM (extS 3 (methM 3 "told" (vL 0) F_Reader_told (consM (kM (.int 1)) nilM))))
  skipM) skipM)
  (killM [] (seqM (retM (mvM (vL 3))) skipM))))))))
def F_Reader_take : FM := runM 4 [true, true] m_Reader_take
/-- Reader.feed: 0 self, 1 piece, 2 found, 3 sign -/
def m_Reader_feed : SM := (seqM (exprM (upF (callM F_checked (consM (vM 1) nilM))))
  (seqM (asgM (nameT 2) (upF (lstM nilM)))
  (seqM (forM (nameT 3) (seqM (exprM (extS 2 (methM 3 "take" (vL 0) F_Reader_take (consM (vM 3) nilM))))
  skipM) [3] (itM (vM 1)))
  (seqM (retM (mvM (vL 2))) skipM))))
def F_Reader_feed : FM := runM 4 [true, true] m_Reader_feed
/-- Reader.finish: 0 self -/
def m_Reader_finish : SM := (seqM (retM (methM 3 "told" (vL 0) F_Reader_told (consM (mA lenD (consM (fldL 3 "kept" (vL 0)).get nilM)) nilM))) skipM)
def F_Reader_finish : FM := runM 1 [true] m_Reader_finish
/-- items_of: 0 text, 1 reader, 2 found -/
def m_items_of : SM := (seqM (asgM (nameT 1) (upF (mkM 3 F_Reader_init nilM)))
  (seqM (iceM 2 (asgM (nameT 2) (methM 3 "feed" (vL 1) F_Reader_feed (consM (vM 0) nilM))))
  (seqM (retM (binVG addD 2 (methM 3 "finish" (vL 1) F_Reader_finish nilM))) skipM)))
def F_items_of : FM := runM 3 [true] m_items_of
/-- checked_most: 0 most -/
def m_checked_most : SM := (seqM (ifM (orB (notB (truM (isiM "int" (vM 0)))) (orB (truM (isiM "bool" (vM 0))) (notB (bM (chM leD leD (kM (.int 1)) (vM 0) (kM (.int 200))))))) (seqM noM' skipM) skipM)
  skipM)
def F_checked_most : FM := runM 1 [true] m_checked_most
/-- Maker.__init__: 0 self, 1 most -/
def m_Maker_init : SM := (seqM (exprM (upF (callM F_checked_most (consM (vM 1) nilM))))
  (seqM (fldM 4 "most" (vL 0) (upR (vM 1)))
  (seqM (fldM 4 "row" (vL 0) (upF (lstM nilM)))
  (seqM (fldM 4 "ink" (vL 0) (upF (kM (.str [46]))))
  (seqM (fldM 4 "ground" (vL 0) (upF (kM (.str [46]))))
  (seqM (fldM 4 "stale" (vL 0) (upF (kM (.bl false))))
  (seqM (fldM 4 "more" (vL 0) (upF (kM (.bl false))))
  skipM)))))))
def F_Maker_init : FM := runM 2 [true, true] m_Maker_init
/-- Maker.open_letters: 0 self -/
def m_Maker_open_letters : SM := (seqM (retM (upF (mA listD (consM (fldL 4 "row" (vL 0)).get nilM)))) skipM)
def F_Maker_open_letters : FM := runM 1 [true] m_Maker_open_letters
/-- Maker.make_plain: 0 self -/
def m_Maker_make_plain : SM := (seqM (fldM 4 "ink" (vL 0) (upF (kM (.str [46]))))
  (seqM (fldM 4 "ground" (vL 0) (upF (kM (.str [46]))))
  skipM))
def F_Maker_make_plain : FM := runM 1 [true] m_Maker_make_plain
/-- Maker.tell_part: 0 self, 1 word, 2 part -/
def m_Maker_tell_part : SM := (seqM (asgM (nameT 2) (tupO (consO (mvM (fldL 4 "row" (vL 0))) (consO (upR (vM 1)) nilG))))
  (seqM (fldM 4 "row" (vL 0) (upF (lstM nilM)))
  (seqM (fldM 4 "stale" (vL 0) (upF (kM (.bl false))))
  (seqM (fldM 4 "more" (vL 0) (upF (m2 eqD (vM 1) (kM (.str [109, 111, 114, 101])))))
  (seqM (retM (lstO (consO (mvM (vL 2)) nilG))) skipM)))))
def F_Maker_tell_part : FM := runM 3 [true, true] m_Maker_tell_part
/-- Maker.put_sign: 0 self, 1 sign, 2 place, 3 found -/
def m_Maker_put_sign : SM := (seqM (asgM (nameT 3) (upF (lstM nilM)))
  (seqM (ifM (bM (m2 eqD (mA lenD (consM (fldL 4 "row" (vL 0)).get nilM)) (fldL 4 "most" (vL 0)).get)) (seqM (asgM (nameT 3) (methM 4 "tell_part" (vL 0) F_Maker_tell_part (consM (kM (.str [109, 111, 114, 101])) nilM)))
  skipM) skipM)
  (killM [] (seqM (exprM (appL (fldL 4 "row" (vL 0)) (tupM (consM (vM 1) (consM (fldL 4 "ink" (vL 0)).get (consM (fldL 4 "ground" (vL 0)).get (consM (vM 2) nilM)))))))
  (seqM (retM (mvM (vL 3))) skipM)))))
def F_Maker_put_sign : FM := runM 4 [true, true, true] m_Maker_put_sign
/-- Maker.put: 0 self, 1 item, 2 place, 3 kind, 4 value -/
def m_Maker_put : SM := (seqM (asgM (tupT (consT (nameT 2) (consT (nameT 3) (consT (nameT 4) nilT)))) (upR (vM 1)))
  (seqM (ifM (bM (m2 eqD (vM 3) (kM (.str [101, 110, 100])))) (seqM (exprM (methM 4 "make_plain" (vL 0) F_Maker_make_plain nilM))
  (seqM (retM (methM 4 "tell_part" (vL 0) F_Maker_tell_part (consM (kM (.str [119, 104, 111, 108, 101])) nilM))) skipM)) skipM)
  (seqM (ifM (bM (m2 eqD (vM 3) (kM (.str [97, 110, 101, 119])))) (seqM (exprM (methM 4 "make_plain" (vL 0) F_Maker_make_plain nilM))
  (seqM (fldM 4 "stale" (vL 0) (upF (kM (.bl true))))
  (seqM (retM (upF (lstM nilM))) skipM))) skipM)
  (seqM (ifM (truM (fldL 4 "stale" (vL 0)).get) (seqM (fldM 4 "row" (vL 0) (upF (lstM nilM)))
  (seqM (fldM 4 "stale" (vL 0) (upF (kM (.bl false))))
  skipM)) skipM)
  (killM [] (seqM (ifM (bM (m2 eqD (vM 3) (kM (.str [115, 105, 103, 110])))) (seqM (retM (methM 4 "put_sign" (vL 0) F_Maker_put_sign (consM (vM 4) (consM (vM 2) nilM)))) skipM) skipM)
  (seqM (ifM (bM (m2 eqD (vM 3) (kM (.str [105, 110, 107])))) (seqM (fldM 4 "ink" (vL 0) (upR (vM 4)))
  skipM) (seqM (ifM (bM (m2 eqD (vM 3) (kM (.str [103, 114, 111, 117, 110, 100])))) (seqM (fldM 4 "ground" (vL 0) (upR (vM 4)))
  skipM) (seqM (exprM (methM 4 "make_plain" (vL 0) F_Maker_make_plain nilM))
  skipM))
  (killM [] skipM)))
  (killM [] (seqM (retM (upF (lstM nilM))) skipM)))))))))
def F_Maker_put : FM := runM 5 [true, true] m_Maker_put
/-- rows_of: 0 text, 1 most, 2 maker, 3 parts, 4 item -/
def m_rows_of : SM := (seqM (asgM (nameT 2) (upF (mkM 4 F_Maker_init (consM (vM 1) nilM))))
  (seqM (asgM (nameT 3) (upF (lstM nilM)))
  (seqM (forM (nameT 4) (seqM (exprM (extO 3 (methM 4 "put" (vL 2) F_Maker_put (consM (vM 4) nilM))))
  skipM) [4] (itM (coldM (callM F_items_of (consM (vM 0) nilM)))))
  (seqM (retM (tupO (consO (mvM (vL 3)) (consO (methM 4 "open_letters" (vL 2) F_Maker_open_letters nilM) nilG)))) skipM))))
def F_rows_of : FM := runM 5 [true, true] m_rows_of
/-- _law_cell: 0 _law_script, 1 _law_k -/
def m_lw_cell : SM := (seqM (ifM (bM (m2 ltD (vM 1) (mA lenD (consM (vM 0) nilM)))) (seqM (retM (upR (m2 ixD (vM 0) (vM 1)))) skipM) skipM)
  (seqM (retM (upF (kM (.int 0)))) skipM))
def F_lw_cell : FM := runM 2 [true, true] m_lw_cell
/-- _law_mix: 0 _law_cell_here, 1 _law_k, 2 _law_rest, 3 _law_turn, 4 _law_number -/
def m_lw_mix : SM := (seqM (ifM (bM (m2 gtD (vM 0) (m2 powD (kM (.int 10)) (kM (.int 18))))) (seqM (asgM (nameT 2) (upR (vM 0)))
  (seqM (forM (nameT 3) (seqM (asgM (nameT 2) (upF (m2 fdivD (vM 2) (m2 powD (kM (.int 10)) (kM (.int 9))))))
  skipM) [3] (rng1M (vM 1)))
  (seqM (retM (upF (m2 modD (vM 2) (m2 powD (kM (.int 10)) (kM (.int 9)))))) skipM))) skipM)
  (seqM (asgM (nameT 4) (upF (m2 addD (m2 modD (vM 0) (kM (.int 2147483647))) (kM (.int 7919)))))
  (seqM (forM (nameT 3) (seqM (asgM (nameT 4) (upF (m2 modD (m2 addD (m2 mulD (vM 4) (kM (.int 48271))) (kM (.int 104729))) (kM (.int 2147483629)))))
  skipM) [3] (rng1M (m2 addD (vM 1) (kM (.int 2)))))
  (seqM (retM (upF (m2 fdivD (m2 modD (m2 mulD (vM 4) (vM 4)) (kM (.int 998244353))) (kM (.int 11))))) skipM))))
def F_lw_mix : FM := runM 5 [true, true] m_lw_mix
/-- _law_signs: 0 _law_some -/
def m_lw_signs : SM := (seqM (asgM (nameT 0) (upF (kM (.str [32, 33, 34, 35, 36, 38, 39, 40, 41, 42, 43, 44, 45, 46, 47, 48, 49, 50, 51, 52, 53, 54, 55, 56, 57, 58, 59, 60, 61, 62, 63, 64, 65, 66, 67, 68, 69, 70, 71, 72, 73, 74, 75, 76, 77, 78, 79, 80, 81, 82, 83, 84, 85, 86, 87, 88, 89, 90]))))
  (seqM (retM (upF (m2 addD (vM 0) (kM (.str [91, 92, 93, 94, 95, 96, 97, 98, 99, 100, 101, 102, 103, 104, 105, 106, 107, 108, 109, 110, 111, 112, 113, 114, 115, 116, 117, 118, 119, 120, 121, 122, 123, 124, 125]))))) skipM))
def F_lw_signs : FM := runM 1 [] m_lw_signs
/-- _law_item: 0 _law_text, 1 _law_at, 2 _law_colours, 3 _law_here -/
def m_lw_item : SM := (seqM (asgM (nameT 2) (upF (kM (.str [97, 98, 99, 100, 101, 102, 103, 104, 46]))))
  (seqM (asgM (nameT 3) (upF (slM (vM 0) (soM (vM 1)) (soM (m2 addD (vM 1) (kM (.int 4)))))))
  (seqM (ifM (bM (m2 eqD (m2 ixD (vM 3) (kM (.int 0))) (kM (.str [10])))) (seqM (retM (upF (tupM (consM (tupM (consM (vM 1) (consM (kM (.str [101, 110, 100])) (consM (kM (.str [])) nilM)))) (consM (kM (.int 1)) nilM))))) skipM) skipM)
  (seqM (ifM (bM (m2 eqD (m2 ixD (vM 3) (kM (.int 0))) (kM (.str [9])))) (seqM (retM (upF (tupM (consM (tupM (consM (vM 1) (consM (kM (.str [97, 110, 101, 119])) (consM (kM (.str [])) nilM)))) (consM (kM (.int 1)) nilM))))) skipM) skipM)
  (seqM (ifM (bM (m2 eqD (slM (vM 3) noM (soM (kM (.int 2)))) (kM (.str [91, 93])))) (seqM (retM (upF (tupM (consM (tupM (consM (vM 1) (consM (kM (.str [112, 108, 97, 105, 110])) (consM (kM (.str [])) nilM)))) (consM (kM (.int 2)) nilM))))) skipM) skipM)
  (seqM (ifM (bM (m2 eqD (slM (vM 3) noM (soM (kM (.int 2)))) (kM (.str [91, 91])))) (seqM (retM (upF (tupM (consM (tupM (consM (vM 1) (consM (kM (.str [115, 105, 103, 110])) (consM (kM (.str [91])) nilM)))) (consM (kM (.int 2)) nilM))))) skipM) skipM)
  (seqM (ifM (andB (bM (m2 gtD (mA lenD (consM (vM 3) nilM)) (kM (.int 2)))) (andB (bM (m2 eqD (m2 ixD (vM 3) (kM (.int 0))) (kM (.str [91])))) (andB (bM (m2 inD (m2 ixD (vM 3) (kM (.int 1))) (vM 2))) (bM (m2 eqD (m2 ixD (vM 3) (kM (.int 2))) (kM (.str [93]))))))) (seqM (retM (upF (tupM (consM (tupM (consM (vM 1) (consM (kM (.str [105, 110, 107])) (consM (m2 ixD (vM 3) (kM (.int 1))) nilM)))) (consM (kM (.int 3)) nilM))))) skipM) skipM)
  (seqM (ifM (andB (bM (m2 eqD (mA lenD (consM (vM 3) nilM)) (kM (.int 4)))) (andB (bM (m2 eqD (slM (vM 3) noM (soM (kM (.int 2)))) (kM (.str [91, 47])))) (andB (bM (m2 inD (m2 ixD (vM 3) (kM (.int 2))) (vM 2))) (bM (m2 eqD (m2 ixD (vM 3) (kM (.int 3))) (kM (.str [93]))))))) (seqM (retM (upF (tupM (consM (tupM (consM (vM 1) (consM (kM (.str [103, 114, 111, 117, 110, 100])) (consM (m2 ixD (vM 3) (kM (.int 2))) nilM)))) (consM (kM (.int 4)) nilM))))) skipM) skipM)
  (seqM (retM (upF (tupM (consM (tupM (consM (vM 1) (consM (kM (.str [115, 105, 103, 110])) (consM (m2 ixD (vM 3) (kM (.int 0))) nilM)))) (consM (kM (.int 1)) nilM))))) skipM)))))))))
def F_lw_item : FM := runM 4 [true, true] m_lw_item
/-- _law_items: 0 _law_text, 1 _law_items_here, 2 _law_at, 3 _law_item_here, 4 _law_size -/
def m_lw_items : SM := (seqM (asgM (nameT 1) (upF (lstM nilM)))
  (seqM (asgM (nameT 2) (upF (kM (.int 0))))
  (seqM (whileM 5000 (bM (m2 ltD (vM 2) (mA lenD (consM (vM 0) nilM)))) (seqM (asgM (tupT (consT (nameT 3) (consT (nameT 4) nilT))) (upF (callM F_lw_item (consM (vM 0) (consM (vM 2) nilM)))))
  (seqM (exprM (appL (vL 1) (frM (vM 3))))
  (seqM (asgM (nameT 2) (upF (m2 addD (vM 2) (vM 4))))
  skipM))) [3, 4])
  (seqM (retM (mvM (vL 1))) skipM))))
def F_lw_items : FM := runM 5 [true] m_lw_items
/-- _law_parts: 0 _law_items_here, 1 _law_most, 2 _law_parts_here, 3 _law_row, 4 _law_stale, 5 _law_colours, 6 _law_place, 7 _law_kind, 8 _law_value -/
def m_lw_parts : SM := (seqM (asgM (nameT 2) (upF (lstM nilM)))
  (seqM (asgM (nameT 3) (upF (coldM (lstM nilM))))
  (seqM (asgM (nameT 4) (upF (kM (.bl false))))
  (seqM (asgM (nameT 5) (upF (lstM (consM (kM (.str [46])) (consM (kM (.str [46])) nilM)))))
  (seqM (forM (tupT (consT (nameT 6) (consT (nameT 7) (consT (nameT 8) nilT)))) (seqM (ifM (andB (truM (vM 4)) (andB (bM (m2 neD (vM 7) (kM (.str [101, 110, 100])))) (bM (m2 neD (vM 7) (kM (.str [97, 110, 101, 119])))))) (seqM (asgM (nameT 3) (upF (coldM (lstM nilM))))
  (seqM (asgM (nameT 4) (upF (kM (.bl false))))
  skipM)) skipM)
  (killM [] (seqM (ifM (bM (m2 eqD (vM 7) (kM (.str [115, 105, 103, 110])))) (seqM (ifM (bM (m2 eqD (mA lenD (consM (vM 3) nilM)) (vM 1))) (seqM (exprM (appL (vL 2) (tupM (consM (vM 3) (consM (kM (.str [109, 111, 114, 101])) nilM)))))
  (seqM (asgM (nameT 3) (upF (coldM (lstM nilM))))
  skipM)) skipM)
  (killM [] (seqM (asgM (nameT 3) (upF (coldM (m2 addD (vM 3) (lstM (consM (tupM (consM (vM 8) (consM (m2 ixD (vM 5) (kM (.int 0))) (consM (m2 ixD (vM 5) (kM (.int 1))) (consM (vM 6) nilM))))) nilM))))))
  skipM))) (seqM (ifM (bM (m2 eqD (vM 7) (kM (.str [105, 110, 107])))) (seqM (storeM (vL 5) (kM (.int 0)) (upR (vM 8)))
  skipM) (seqM (ifM (bM (m2 eqD (vM 7) (kM (.str [103, 114, 111, 117, 110, 100])))) (seqM (storeM (vL 5) (kM (.int 1)) (upR (vM 8)))
  skipM) (seqM (asgM (nameT 5) (upF (lstM (consM (kM (.str [46])) (consM (kM (.str [46])) nilM)))))
  skipM))
  (killM [] skipM)))
  (killM [] skipM)))
  (killM [] (seqM (ifM (bM (m2 eqD (vM 7) (kM (.str [97, 110, 101, 119])))) (seqM (asgM (nameT 4) (upF (kM (.bl true))))
  skipM) skipM)
  (killM [] (seqM (ifM (bM (m2 eqD (vM 7) (kM (.str [101, 110, 100])))) (seqM (exprM (appL (vL 2) (tupM (consM (vM 3) (consM (kM (.str [119, 104, 111, 108, 101])) nilM)))))
  (seqM (asgM (nameT 3) (upF (coldM (lstM nilM))))
  (seqM (asgM (nameT 4) (upF (kM (.bl false))))
  skipM))) skipM)
  (killM [] skipM)))))))) [6, 7, 8] (itM (vM 0)))
  (frzM 2 (seqM (retM (upF (tupM (consM (vM 2) (consM (vM 3) nilM))))) skipM)))))))
def F_lw_parts : FM := runM 9 [true, true] m_lw_parts
/-- _law_whole: 0 _law_found -/
def m_lw_whole : SM := (seqM (retM (upF (andM (isiM "int" (vM 0)) (notD (isiM "bool" (vM 0)))))) skipM)
def F_lw_whole : FM := runM 1 [true] m_lw_whole
/-- _law_letters_right: 0 _law_found, 1 _law_due, 2 _law_letter, 3 _law_thing -/
def m_lw_letters_right : SM := (seqM (ifM (orB (notB (truM (isiM "list" (vM 0)))) (bM (m2 neD (mA lenD (consM (vM 0) nilM)) (mA lenD (consM (vM 1) nilM))))) (seqM (retM (upF (kM (.bl false)))) skipM) skipM)
  (seqM (forM (nameT 2) (seqM (ifM (orB (notB (truM (isiM "tuple" (vM 2)))) (orB (bM (m2 neD (mA lenD (consM (vM 2) nilM)) (kM (.int 4)))) (notB (truM (callM F_lw_whole (consM (m2 ixD (vM 2) (kM (.int 3))) nilM)))))) (seqM (retM (upF (kM (.bl false)))) skipM) skipM)
  (seqM (ifM (bM (m2 neD (compM [3] (nameT 3) yesB (isiM "str" (vM 3)) (itV (slM (vM 2) noM (soM (kM (.int 3)))))) (lstM (consM (kM (.bl true)) (consM (kM (.bl true)) (consM (kM (.bl true)) nilM)))))) (seqM (retM (upF (kM (.bl false)))) skipM) skipM)
  skipM)) [2] (itM (vM 0)))
  (seqM (retM (upF (m2 eqD (vM 0) (vM 1)))) skipM)))
def F_lw_letters_right : FM := runM 4 [true, true] m_lw_letters_right
/-- _law_parts_right: 0 _law_found, 1 _law_due, 2 _law_part, 3 _law_other -/
def m_lw_parts_right : SM := (seqM (ifM (orB (notB (truM (isiM "list" (vM 0)))) (bM (m2 neD (mA lenD (consM (vM 0) nilM)) (mA lenD (consM (vM 1) nilM))))) (seqM (retM (upF (kM (.bl false)))) skipM) skipM)
  (seqM (forM (tupT (consT (nameT 2) (consT (nameT 3) nilT))) (seqM (ifM (orB (notB (truM (isiM "tuple" (vM 2)))) (orB (bM (m2 neD (mA lenD (consM (vM 2) nilM)) (kM (.int 2)))) (bM (m2 neD (m2 ixD (vM 2) (kM (.int 1))) (m2 ixD (vM 3) (kM (.int 1))))))) (seqM (retM (upF (kM (.bl false)))) skipM) skipM)
  (seqM (ifM (notB (truM (callM F_lw_letters_right (consM (m2 ixD (vM 2) (kM (.int 0))) (consM (m2 ixD (vM 3) (kM (.int 0))) nilM))))) (seqM (retM (upF (kM (.bl false)))) skipM) skipM)
  skipM)) [2, 3] (zipM (vM 0) (vM 1)))
  (seqM (retM (upF (kM (.bl true)))) skipM)))
def F_lw_parts_right : FM := runM 4 [true, true] m_lw_parts_right
/-- _law_piece: 0 _law_cell_here, 1 _law_ends, 2 _law_colour, 3 _law_way -/
def m_lw_piece : SM := (seqM (asgM (nameT 2) (upR (m2 ixD (kM (.str [97, 98, 99, 100, 101, 102, 103, 104, 46])) (m2 modD (callM F_lw_mix (consM (vM 0) (consM (kM (.int 1)) nilM))) (kM (.int 9))))))
  (seqM (asgM (nameT 3) (upF (m2 modD (callM F_lw_mix (consM (vM 0) (consM (kM (.int 0)) nilM))) (kM (.int 9)))))
  (seqM (ifM (bM (m2 ltD (vM 3) (kM (.int 2)))) (seqM (retM (upF (m2 addD (m2 addD (kM (.str [91])) (vM 2)) (kM (.str [93]))))) skipM) skipM)
  (seqM (ifM (bM (m2 ltD (vM 3) (kM (.int 4)))) (seqM (retM (upF (m2 addD (m2 addD (kM (.str [91, 47])) (vM 2)) (kM (.str [93]))))) skipM) skipM)
  (seqM (ifM (bM (m2 eqD (vM 3) (kM (.int 4)))) (seqM (retM (upR (m2 ixD (lstM (consM (kM (.str [91, 93])) (consM (kM (.str [91, 91])) (consM (m2 addD (kM (.str [91])) (vM 2)) (consM (m2 addD (kM (.str [91, 47])) (vM 2)) nilM))))) (m2 modD (callM F_lw_mix (consM (vM 0) (consM (kM (.int 3)) nilM))) (kM (.int 4)))))) skipM) skipM)
  (seqM (ifM (andB (bM (m2 eqD (vM 3) (kM (.int 5)))) (truM (vM 1))) (seqM (retM (upF (kM (.str [10])))) skipM) skipM)
  (seqM (retM (upR (m2 ixD (lstM (consM (m2 ixD (callM F_lw_signs nilM) (m2 modD (callM F_lw_mix (consM (vM 0) (consM (kM (.int 4)) nilM))) (kM (.int 93)))) (consM (kM (.str [32])) (consM (kM (.str [97])) (consM (kM (.str [66])) nilM))))) (m2 modD (callM F_lw_mix (consM (vM 0) (consM (kM (.int 5)) nilM))) (kM (.int 4)))))) skipM)))))))
def F_lw_piece : FM := runM 4 [true, true] m_lw_piece
/-- law: 0 _law_script, 1 _law_ends, 2 _law_text, 3 _law_due, 4 _law_found, 5 _law_letters, 6 _law_word, 7 _law_again, 8 _law_cell_here -/
def m_law : SM := (seqM (asgM (nameT 1) (upF (m2 gtD (m2 modD (callM F_lw_mix (consM (callM F_lw_cell (consM (vM 0) (consM (kM (.int 0)) nilM))) (consM (kM (.int 9)) nilM))) (kM (.int 4))) (kM (.int 0)))))
  (seqM (asgM (nameT 2) (upF (m2 joinD2 (kM (.str [])) (compM [8] (nameT 8) yesB (callM F_lw_piece (consM (vM 8) (consM (vM 1) nilM))) (itV (coldM (slM (vM 0) noM (soM (kM (.int 60))))))))))
  (seqM (asgM (nameT 3) (upF (callM F_lw_parts (consM (coldM (callM F_lw_items (consM (vM 2) nilM))) (consM (kM (.int 200)) nilM)))))
  (seqM (asgM (nameT 4) (upF (callM F_rows_of (consM (vM 2) (consM (kM (.int 200)) nilM)))))
  (seqM (ifM (orB (notB (truM (isiM "tuple" (vM 4)))) (bM (m2 neD (mA lenD (consM (vM 4) nilM)) (kM (.int 2))))) (seqM (retM (upF (kM (.bl false)))) skipM) skipM)
  (seqM (ifM (orB (notB (truM (callM F_lw_parts_right (consM (m2 ixD (vM 4) (kM (.int 0))) (consM (m2 ixD (vM 3) (kM (.int 0))) nilM))))) (notB (truM (callM F_lw_letters_right (consM (m2 ixD (vM 4) (kM (.int 1))) (consM (m2 ixD (vM 3) (kM (.int 1))) nilM)))))) (seqM (retM (upF (kM (.bl false)))) skipM) skipM)
  (seqM (forCTM 4 0 (tupT (consT (nameT 5) (consT (nameT 6) nilT))) (seqM (exprM (clearL (vL 5)))
  skipM) [5, 6])
  (seqM (exprM (clearL (tupL 1 (vL 4))))
  (seqM (asgM (nameT 7) (upF (coldM (callM F_rows_of (consM (vM 2) (consM (kM (.int 200)) nilM))))))
  (seqM (retM (upF (andM (callM F_lw_parts_right (consM (m2 ixD (vM 7) (kM (.int 0))) (consM (m2 ixD (vM 3) (kM (.int 0))) nilM))) (callM F_lw_letters_right (consM (m2 ixD (vM 7) (kM (.int 1))) (consM (m2 ixD (vM 3) (kM (.int 1))) nilM)))))) skipM))))))))))
def F_law : FM := runM 9 [true] m_law
end LW
namespace LW
open PySem L2 LI OW
def e_Reader (o : Bool) (x : OReader) : D := .obj o 3 ["kept", "place"] [eS x.kept, eI x.place]
instance {o : Bool} : Ng (e_Reader o) := ⟨fun _ => rfl⟩
instance {o : Bool} : No (e_Reader o) := ⟨fun _ => rfl⟩
instance {o : Bool} : Ic (e_Reader o) (e_Reader false) := ⟨fun x => by simp [e_Reader, eL, Ic.ic, icL]⟩
instance : Fz (e_Reader false) := ⟨fun x => by simp [e_Reader, Fz.fz, fzL]⟩
def e_Maker (o : Bool) (x : OMaker) : D := .obj o 4 ["most", "row", "ink", "ground", "stale", "more"] [eI x.most, (eL o (e4 eS eS eS eI)) x.row, eS x.ink, eS x.ground, eB x.stale, eB x.more]
instance {o : Bool} : Ng (e_Maker o) := ⟨fun _ => rfl⟩
instance {o : Bool} : No (e_Maker o) := ⟨fun _ => rfl⟩
instance {o : Bool} : Ic (e_Maker o) (e_Maker false) := ⟨fun x => by simp [e_Maker, eL, Ic.ic, icL]⟩
instance : Fz (e_Maker false) := ⟨fun x => by simp [e_Maker, Fz.fz, fzL]⟩
def e_Maker__g0_row (x : OMaker) : D := .obj true 4 ["most", "row", "ink", "ground", "stale", "more"] [eI x.most, .gone, eS x.ink, eS x.ground, eB x.stale, eB x.more]
instance : Ng e_Maker__g0_row := ⟨fun _ => rfl⟩
instance : No e_Maker__g0_row := ⟨fun _ => rfl⟩
theorem L_is_sign  (thing : Ts) {r : Bool} (h : t_is_sign thing = some r) : F_is_sign [eS thing] = some (eB r, (fun _ => [eS thing]) r) := by
  have hb : Bk (Qf eB [true] (fun _ => [eS thing])) m_is_sign [eS thing] _ := (b_retI (eg_f (x_and (x_isK kit_str_str (x_v eS thing rfl)) (x_and (x_m2 (o2_eq (e' := eI) (by decide)) (x_a1 o1_lenS (x_v eS thing rfl)) (x_k eI (1) rfl)) (x_chT o2_leS o2_leS (x_k eS [' '] rfl) (x_v eS thing rfl) (x_k eS ['}'] rfl))))) (fun u3_ => ⟨.inl rfl, rfl⟩))
  refine run_T (n := 1) (kp := [true]) (m := m_is_sign) (ds := [eS thing]) rfl hb ?_
  first
    | (simp -implicitDefEqProofs only [t_is_sign, Option.bind_assoc, Option.bind_some, bind_same] at h ⊢; exact h)
    | (simp -implicitDefEqProofs only [t_is_sign, Option.bind_assoc, Option.bind_some, bind_same] at h; exact h)
    | exact h
    | (simp [t_is_sign] at h ⊢; exact h)
theorem T_is_sign : Tf (τ := Ts × Unit) (fun t => [eS t.1]) eB F_is_sign (fun t => t_is_sign t.1) := fun t r h => ⟨_, L_is_sign t.1 h⟩
theorem L_is_colour  (thing : Ts) {r : Bool} (h : t_is_colour thing = some r) : F_is_colour [eS thing] = some (eB r, (fun _ => [eS thing]) r) := by
  have hb : Bk (Qf eB [true] (fun _ => [eS thing])) m_is_colour [eS thing] _ := (b_retI (eg_f (x_and (x_isK kit_str_str (x_v eS thing rfl)) (x_and (x_m2 (o2_eq (e' := eI) (by decide)) (x_a1 o1_lenS (x_v eS thing rfl)) (x_k eI (1) rfl)) (x_m2 o2_in (x_v eS thing rfl) (x_k eS ['a', 'b', 'c', 'd', 'e', 'f', 'g', 'h', '.'] rfl))))) (fun u3_ => ⟨.inl rfl, rfl⟩))
  refine run_T (n := 1) (kp := [true]) (m := m_is_colour) (ds := [eS thing]) rfl hb ?_
  first
    | (simp -implicitDefEqProofs only [t_is_colour, Option.bind_assoc, Option.bind_some, bind_same] at h ⊢; exact h)
    | (simp -implicitDefEqProofs only [t_is_colour, Option.bind_assoc, Option.bind_some, bind_same] at h; exact h)
    | exact h
    | (simp [t_is_colour] at h ⊢; exact h)
theorem T_is_colour : Tf (τ := Ts × Unit) (fun t => [eS t.1]) eB F_is_colour (fun t => t_is_colour t.1) := fun t r h => ⟨_, L_is_colour t.1 h⟩
theorem L_checked  (text : Ts) {r : Unit} (h : t_checked text = some r) : F_checked [eS text] = some (eU r, (fun _ => [eS text]) r) := by
  have hb : Bk (Qf eU [true] (fun _ => [eS text])) m_checked [eS text, .gone, .gone] _ := (b_ifT (et_not (et_tru (x_isK kit_str_str (x_v eS text rfl)))) b_never (b_for (fun (s1_ : Unit) => [eS text, .gone, .gone]) () (fun (s1_ : Unit) (x2_ : (Int × Ts)) => [eS text, eI x2_.1, eS x2_.2]) (ei_enumS (x_v eS text rfl)) rfl (fun _ _ => rfl) (fun (s1_ : Unit) (x2_ : (Int × Ts)) => (b_ifT (et_and (et_not (et_tru (x_call T_is_sign (ea_cons (x_v eS x2_.2 rfl) ea_nil)))) (et_b (x_m2 o2_nin (x_v eS x2_.2 rfl) (x_k eS ['\n', '\t'] rfl)))) b_never (b_nil (t := ()) ⟨rfl, rfl⟩))) (fun (s1_ : Unit) => (b_nil (t := ()) ⟨.inr ⟨rfl, rfl⟩, rfl⟩))))
  refine run_T (n := 3) (kp := [true]) (m := m_checked) (ds := [eS text]) rfl hb ?_
  first
    | (simp -implicitDefEqProofs only [t_checked, Option.bind_assoc, Option.bind_some, bind_same] at h ⊢; exact h)
    | (simp -implicitDefEqProofs only [t_checked, Option.bind_assoc, Option.bind_some, bind_same] at h; exact h)
    | exact h
    | (simp [t_checked] at h ⊢; exact h)
theorem T_checked : Tf (τ := Ts × Unit) (fun t => [eS t.1]) eU F_checked (fun t => t_checked t.1) := fun t r h => ⟨_, L_checked t.1 h⟩
theorem L_sign_item  (place : Int) (sign : Ts) {r : (Int × Ts × Ts)} (h : t_sign_item place sign = some r) : F_sign_item [eI place, eS sign] = some ((e3 eI eS eS) r, (fun _ => [eI place, eS sign]) r) := by
  have hb : Bk (Qf (e3 eI eS eS) [true, true] (fun _ => [eI place, eS sign])) m_sign_item [eI place, eS sign] _ := (b_ifT (et_b (x_m1 (o1_inK (kt := kt_ENDS) rfl) (x_v eS sign rfl))) (b_retI (eg_f (x_tup (f := (e3 eI eS eS)) (fun t : Int × Ts × Ts × Unit => (t.1, t.2.1, t.2.2.1)) (ea_cons (x_v eI place rfl) (ea_cons (x_m1 (o1_ixK (kt := kt_ENDS) rfl) (x_v eS sign rfl)) (ea_cons (x_k eS ([] : Ts) rfl) ea_nil))) (fun _ => rfl) (fun _ => (by decide : 3 ≤ LIM)))) (fun u2_ => ⟨rfl, ⟨.inl rfl, rfl⟩⟩)) (b_ret (k := fun u3_ => u3_) (eg_f (x_tup (f := (e3 eI eS eS)) (fun t : Int × Ts × Ts × Unit => (t.1, t.2.1, t.2.2.1)) (ea_cons (x_v eI place rfl) (ea_cons (x_k eS ['s', 'i', 'g', 'n'] rfl) (ea_cons (x_v eS sign rfl) ea_nil))) (fun _ => rfl) (fun _ => (by decide : 3 ≤ LIM)))) (fun u3_ => ⟨.inl rfl, rfl⟩)))
  refine run_T (n := 2) (kp := [true, true]) (m := m_sign_item) (ds := [eI place, eS sign]) rfl hb ?_
  first
    | (simp -implicitDefEqProofs only [t_sign_item, Option.bind_assoc, Option.bind_some, bind_same] at h ⊢; exact h)
    | (simp -implicitDefEqProofs only [t_sign_item, Option.bind_assoc, Option.bind_some, bind_same] at h; exact h)
    | exact h
    | (simp [t_sign_item] at h ⊢; exact h)
theorem T_sign_item : Tf (τ := Int × Ts × Unit) (fun t => [eI t.1, eS t.2.1]) (e3 eI eS eS) F_sign_item (fun t => t_sign_item t.1 t.2.1) := fun t r h => ⟨_, L_sign_item t.1 t.2.1 h⟩
theorem L_begins_mark  (text : Ts) {r : Bool} (h : t_begins_mark text = some r) : F_begins_mark [eS text] = some (eB r, (fun _ => [eS text]) r) := by
  have hb : Bk (Qf eB [true] (fun _ => [eS text])) m_begins_mark [eS text] _ := (b_ifT (et_b (x_m2 o2_in (x_v eS text rfl) (x_tup (f := (eV eS)) (fun t : Ts × Ts × Unit => ([t.1, t.2.1] : (List Ts))) (ea_cons (x_k eS ['['] rfl) (ea_cons (x_k eS ['[', '/'] rfl) ea_nil)) (fun _ => rfl) (fun _ => (by decide : 2 ≤ LIM))))) (b_ret (k := fun u1_ => u1_) (eg_f (x_k eB true rfl)) (fun u1_ => ⟨rfl, ⟨.inl rfl, rfl⟩⟩)) (b_ifT (et_and (et_b (x_m2 (o2_eq (e' := eI) (by decide)) (x_a1 o1_lenS (x_v eS text rfl)) (x_k eI (2) rfl))) (et_b (x_m2 (o2_eq (e' := eS) (by decide)) (x_m2 o2_ixS (x_v eS text rfl) (x_k eI (0) rfl)) (x_k eS ['['] rfl)))) (b_retI (eg_f (x_call T_is_colour (ea_cons (x_m2 o2_ixS (x_v eS text rfl) (x_k eI (1) rfl)) ea_nil))) (fun u6_ => ⟨rfl, ⟨.inl rfl, rfl⟩⟩)) (b_retI (eg_f (x_and (x_m2 (o2_eq (e' := eI) (by decide)) (x_a1 o1_lenS (x_v eS text rfl)) (x_k eI (3) rfl)) (x_and (x_m2 (o2_eq (e' := eS) (by decide)) (x_sl (x_v eS text rfl) eo_no (eo_so (x_k eI (2) rfl))) (x_k eS ['[', '/'] rfl)) (x_call T_is_colour (ea_cons (x_m2 o2_ixS (x_v eS text rfl) (x_k eI (2) rfl)) ea_nil))))) (fun u12_ => ⟨.inl rfl, rfl⟩))))
  refine run_T (n := 1) (kp := [true]) (m := m_begins_mark) (ds := [eS text]) rfl hb ?_
  first
    | (simp -implicitDefEqProofs only [t_begins_mark, Option.bind_assoc, Option.bind_some, bind_same] at h ⊢; exact h)
    | (simp -implicitDefEqProofs only [t_begins_mark, Option.bind_assoc, Option.bind_some, bind_same] at h; exact h)
    | exact h
    | (simp [t_begins_mark] at h ⊢; exact h)
theorem T_begins_mark : Tf (τ := Ts × Unit) (fun t => [eS t.1]) eB F_begins_mark (fun t => t_begins_mark t.1) := fun t r h => ⟨_, L_begins_mark t.1 h⟩
theorem L_mark_item  (place : Int) (text : Ts) {r : (Option (Int × Ts × Ts))} (h : t_mark_item place text = some r) : F_mark_item [eI place, eS text] = some ((eO (e3 eI eS eS)) r, (fun _ => [eI place, eS text]) r) := by
  have hb : Bk (Qf (eO (e3 eI eS eS)) [true, true] (fun _ => [eI place, eS text])) m_mark_item [eI place, eS text] _ := (b_ifT (et_b (x_m2 (o2_eq (e' := eS) (by decide)) (x_v eS text rfl) (x_k eS ['[', '['] rfl))) (b_ret (k := fun u1_ => u1_) (eg_f (x_map (e := (e3 eI eS eS)) (f := (eO (e3 eI eS eS))) some (fun _ => rfl) (x_tup (f := (e3 eI eS eS)) (fun t : Int × Ts × Ts × Unit => (t.1, t.2.1, t.2.2.1)) (ea_cons (x_v eI place rfl) (ea_cons (x_k eS ['s', 'i', 'g', 'n'] rfl) (ea_cons (x_k eS ['['] rfl) ea_nil))) (fun _ => rfl) (fun _ => (by decide : 3 ≤ LIM))))) (fun u1_ => ⟨rfl, ⟨.inl rfl, rfl⟩⟩)) (b_ifT (et_b (x_m2 (o2_eq (e' := eS) (by decide)) (x_v eS text rfl) (x_k eS ['[', ']'] rfl))) (b_ret (k := fun u2_ => u2_) (eg_f (x_map (e := (e3 eI eS eS)) (f := (eO (e3 eI eS eS))) some (fun _ => rfl) (x_tup (f := (e3 eI eS eS)) (fun t : Int × Ts × Ts × Unit => (t.1, t.2.1, t.2.2.1)) (ea_cons (x_v eI place rfl) (ea_cons (x_k eS ['p', 'l', 'a', 'i', 'n'] rfl) (ea_cons (x_k eS ([] : Ts) rfl) ea_nil))) (fun _ => rfl) (fun _ => (by decide : 3 ≤ LIM))))) (fun u2_ => ⟨rfl, ⟨.inl rfl, rfl⟩⟩)) (b_ifT (et_and (et_b (x_m2 (o2_eq (e' := eI) (by decide)) (x_a1 o1_lenS (x_v eS text rfl)) (x_k eI (3) rfl))) (et_and (et_b (x_m2 (o2_eq (e' := eS) (by decide)) (x_m2 o2_ixS (x_v eS text rfl) (x_k eI (0) rfl)) (x_k eS ['['] rfl))) (et_and (et_tru (x_call T_is_colour (ea_cons (x_m2 o2_ixS (x_v eS text rfl) (x_k eI (1) rfl)) ea_nil))) (et_b (x_m2 (o2_eq (e' := eS) (by decide)) (x_m2 o2_ixS (x_v eS text rfl) (x_k eI (2) rfl)) (x_k eS [']'] rfl)))))) (b_retI (eg_f (x_map (e := (e3 eI eS eS)) (f := (eO (e3 eI eS eS))) some (fun _ => rfl) (x_tup (f := (e3 eI eS eS)) (fun t : Int × Ts × Ts × Unit => (t.1, t.2.1, t.2.2.1)) (ea_cons (x_v eI place rfl) (ea_cons (x_k eS ['i', 'n', 'k'] rfl) (ea_cons (x_m2 o2_ixS (x_v eS text rfl) (x_k eI (1) rfl)) ea_nil))) (fun _ => rfl) (fun _ => (by decide : 3 ≤ LIM))))) (fun u12_ => ⟨rfl, ⟨.inl rfl, rfl⟩⟩)) (b_ifT (et_and (et_b (x_m2 (o2_eq (e' := eI) (by decide)) (x_a1 o1_lenS (x_v eS text rfl)) (x_k eI (4) rfl))) (et_and (et_b (x_m2 (o2_eq (e' := eS) (by decide)) (x_sl (x_v eS text rfl) eo_no (eo_so (x_k eI (2) rfl))) (x_k eS ['[', '/'] rfl))) (et_and (et_tru (x_call T_is_colour (ea_cons (x_m2 o2_ixS (x_v eS text rfl) (x_k eI (2) rfl)) ea_nil))) (et_b (x_m2 (o2_eq (e' := eS) (by decide)) (x_m2 o2_ixS (x_v eS text rfl) (x_k eI (3) rfl)) (x_k eS [']'] rfl)))))) (b_retI (eg_f (x_map (e := (e3 eI eS eS)) (f := (eO (e3 eI eS eS))) some (fun _ => rfl) (x_tup (f := (e3 eI eS eS)) (fun t : Int × Ts × Ts × Unit => (t.1, t.2.1, t.2.2.1)) (ea_cons (x_v eI place rfl) (ea_cons (x_k eS ['g', 'r', 'o', 'u', 'n', 'd'] rfl) (ea_cons (x_m2 o2_ixS (x_v eS text rfl) (x_k eI (2) rfl)) ea_nil))) (fun _ => rfl) (fun _ => (by decide : 3 ≤ LIM))))) (fun u22_ => ⟨rfl, ⟨.inl rfl, rfl⟩⟩)) (b_ret (k := fun u23_ => u23_) (eg_f (x_map (e := eU) (f := (eO (e3 eI eS eS))) (fun _ => none) (fun _ => rfl) (x_k eU () rfl))) (fun u23_ => ⟨.inl rfl, rfl⟩))))))
  refine run_T (n := 2) (kp := [true, true]) (m := m_mark_item) (ds := [eI place, eS text]) rfl hb ?_
  first
    | (simp -implicitDefEqProofs only [t_mark_item, Option.bind_assoc, Option.bind_some, bind_same] at h ⊢; exact h)
    | (simp -implicitDefEqProofs only [t_mark_item, Option.bind_assoc, Option.bind_some, bind_same] at h; exact h)
    | exact h
    | (simp [t_mark_item] at h ⊢; exact h)
theorem T_mark_item : Tf (τ := Int × Ts × Unit) (fun t => [eI t.1, eS t.2.1]) (eO (e3 eI eS eS)) F_mark_item (fun t => t_mark_item t.1 t.2.1) := fun t r h => ⟨_, L_mark_item t.1 t.2.1 h⟩
theorem L_Reader_init   {r : OReader} (h : t_Reader_init  = some r) : F_Reader_init [.obj true 3 [] []] = some ((fun _ => .non) r, (fun r : OReader => e_Reader true r :: []) r) := by
  have hb : Bk (Qf (fun _ => .non) [true] (fun r : OReader => e_Reader true r :: [])) m_Reader_init [(fun _ => .obj true 3 [] []) ()] _ := (b_fld (fun (u1_ : Ts) => [(fun _ => .obj true 3 ["kept"] [eS u1_]) ()]) (eg_f (x_k eS ([] : Ts) rfl)) (fun _ => rfl) (fun (u1_ : Ts) => (b_fld (fun (u2_ : Int) => [e_Reader true ({ kept := u1_, place := u2_ : OReader })]) (eg_f (x_k eI (0) rfl)) (fun _ => rfl) (fun (u2_ : Int) => (b_nil (t := ({ kept := u1_, place := u2_ : OReader })) ⟨.inr ⟨rfl, rfl⟩, rfl⟩)))))
  refine run_T (n := 1) (kp := [true]) (m := m_Reader_init) (ds := [.obj true 3 [] []]) rfl hb ?_
  first
    | (simp -implicitDefEqProofs only [t_Reader_init, Option.bind_assoc, Option.bind_some, bind_same] at h ⊢; exact h)
    | (simp -implicitDefEqProofs only [t_Reader_init, Option.bind_assoc, Option.bind_some, bind_same] at h; exact h)
    | exact h
    | (simp [t_Reader_init] at h ⊢; exact h)
theorem T_Reader_init : Tn (τ := Unit) 3 (fun t => []) (e_Reader true) F_Reader_init (fun t => t_Reader_init ) := fun t r h => ⟨_, L_Reader_init  h⟩
theorem L_Reader_told  (self : OReader) (many : Int) {r : ((List (Int × Ts × Ts)) × OReader)} (h : t_Reader_told self many = some r) : F_Reader_told [(e_Reader true) self, eI many] = some ((fun r : ((List (Int × Ts × Ts)) × OReader) => (eL true (e3 eI eS eS)) r.1) r, (fun r : ((List (Int × Ts × Ts)) × OReader) => e_Reader true r.2 :: [eI many]) r) := by
  have hb : Bk (Qf (fun r : ((List (Int × Ts × Ts)) × OReader) => (eL true (e3 eI eS eS)) r.1) [true, true] (fun r : ((List (Int × Ts × Ts)) × OReader) => e_Reader true r.2 :: [eI many])) m_Reader_told [(e_Reader true) self, eI many, .gone, .gone] _ := (b_asg (fun (found : (List (Int × Ts × Ts))) => [(e_Reader true) self, eI many, (eL true (e3 eI eS eS)) found, .gone]) (eg_f (x_lst (f := (eL true (e3 eI eS eS))) (fun t : Unit => ([] : (List (Int × Ts × Ts)))) ea_nil (fun _ => rfl) (fun _ => (by decide : 0 ≤ LIM)))) (fun _ => rfl) (fun (found : (List (Int × Ts × Ts))) => (b_for (fun (s2_ : (OReader × (List (Int × Ts × Ts)))) => [(e_Reader true) s2_.1, eI many, (eL true (e3 eI eS eS)) s2_.2, .gone]) (self, found) (fun (s2_ : (OReader × (List (Int × Ts × Ts)))) (sign : Ts) => [(e_Reader true) s2_.1, eI many, (eL true (e3 eI eS eS)) s2_.2, eS sign]) (ei_it (x_sl (ev_get (e := eS) (x := self.kept) rfl) eo_no (eo_so (x_v eI many rfl)))) rfl (fun _ _ => rfl) (fun (s2_ : (OReader × (List (Int × Ts × Ts)))) (sign : Ts) => (b_expr (eg_app (a := (e3 eI eS eS)) (xs := s2_.2) (env := fun r_ => [(e_Reader true) s2_.1, eI many, (eL true (e3 eI eS eS)) r_, eS sign]) rfl (x_call T_sign_item (ea_cons (ev_get (e := eI) (x := s2_.1.place) rfl) (ea_cons (x_v eS sign rfl) ea_nil))) (fun _ => rfl)) (fun (u4_ : (List (Int × Ts × Ts))) => (b_fld (fun (u5_ : Int) => [(e_Reader true) ({ s2_.1 with place := u5_ }), eI many, (eL true (e3 eI eS eS)) u4_, eS sign]) (eg_f (x_m2 o2_addI (ev_get (e := eI) (x := s2_.1.place) rfl) (x_k eI (1) rfl))) (fun _ => rfl) (fun (u5_ : Int) => (b_nil (t := ({ s2_.1 with place := u5_ }, u4_)) ⟨rfl, rfl⟩)))))) (fun (s2_ : (OReader × (List (Int × Ts × Ts)))) => (b_fld (fun (u6_ : Ts) => [(e_Reader true) ({ s2_.1 with kept := u6_ }), eI many, (eL true (e3 eI eS eS)) s2_.2, .gone]) (eg_f (x_sl (ev_get (e := eS) (x := s2_.1.kept) rfl) (eo_so (x_v eI many rfl)) eo_no)) (fun _ => rfl) (fun (u6_ : Ts) => (b_ret (k := fun u7_ => (u7_, { s2_.1 with kept := u6_ })) (eg_mv (eL true (e3 eI eS eS)) s2_.2 [(e_Reader true) ({ s2_.1 with kept := u6_ }), eI many, .gone, .gone] rfl rfl) (fun u7_ => ⟨.inl rfl, rfl⟩))))))))
  refine run_T (n := 4) (kp := [true, true]) (m := m_Reader_told) (ds := [(e_Reader true) self, eI many]) rfl hb ?_
  first
    | (simp -implicitDefEqProofs only [t_Reader_told, Option.bind_assoc, Option.bind_some, bind_same] at h ⊢; exact h)
    | (simp -implicitDefEqProofs only [t_Reader_told, Option.bind_assoc, Option.bind_some, bind_same] at h; exact h)
    | exact h
    | (simp [t_Reader_told] at h ⊢; exact h)
theorem T_Reader_told : Tm (τ := Int × Unit) (e_Reader true) (fun t => [eI t.1]) (fun r : ((List (Int × Ts × Ts)) × OReader) => (eL true (e3 eI eS eS)) r.1) (fun r => r.2) F_Reader_told (fun x t => t_Reader_told x t.1) := fun x t r h => ⟨_, L_Reader_told x t.1 h⟩
theorem L_Reader_take  (self : OReader) (sign : Ts) {r : ((List (Int × Ts × Ts)) × OReader)} (h : t_Reader_take self sign = some r) : F_Reader_take [(e_Reader true) self, eS sign] = some ((fun r : ((List (Int × Ts × Ts)) × OReader) => (eL true (e3 eI eS eS)) r.1) r, (fun r : ((List (Int × Ts × Ts)) × OReader) => e_Reader true r.2 :: [eS sign]) r) := by
  have hb : Bk (Qf (fun r : ((List (Int × Ts × Ts)) × OReader) => (eL true (e3 eI eS eS)) r.1) [true, true] (fun r : ((List (Int × Ts × Ts)) × OReader) => e_Reader true r.2 :: [eS sign])) m_Reader_take [(e_Reader true) self, eS sign, .gone, .gone] _ := (b_asg (fun (whole : (Option (Int × Ts × Ts))) => [(e_Reader true) self, eS sign, (eO (e3 eI eS eS)) whole, .gone]) (eg_f (x_call T_mark_item (ea_cons (ev_get (e := eI) (x := self.place) rfl) (ea_cons (x_m2 o2_catS (ev_get (e := eS) (x := self.kept) rfl) (x_v eS sign rfl)) ea_nil)))) (fun _ => rfl) (fun (whole : (Option (Int × Ts × Ts))) => (b_ifT (et_b (x_m2 o2_nisN (x_v (eO (e3 eI eS eS)) whole rfl) (x_k eU () rfl))) (b_fld (fun (u4_ : Int) => [(e_Reader true) ({ self with place := u4_ }), eS sign, (eO (e3 eI eS eS)) whole, .gone]) (eg_f (x_m2 o2_addI (x_m2 o2_addI (ev_get (e := eI) (x := self.place) rfl) (x_a1 o1_lenS (ev_get (e := eS) (x := self.kept) rfl))) (x_k eI (1) rfl))) (fun _ => rfl) (fun (u4_ : Int) => (b_fld (fun (u5_ : Ts) => [(e_Reader true) ({ { self with place := u4_ } with kept := u5_ }), eS sign, (eO (e3 eI eS eS)) whole, .gone]) (eg_f (x_k eS ([] : Ts) rfl)) (fun _ => rfl) (fun (u5_ : Ts) => (b_ret (k := fun u7_ => (u7_, { { self with place := u4_ } with kept := u5_ })) (eg_f (x_lst (f := (eL true (e3 eI eS eS))) (fun t : (Int × Ts × Ts) × Unit => ([t.1] : (List (Int × Ts × Ts)))) (ea_cons (x_un (x_v (eO (e3 eI eS eS)) whole rfl)) ea_nil) (fun _ => rfl) (fun _ => (by decide : 1 ≤ LIM)))) (fun u7_ => ⟨rfl, ⟨.inl rfl, rfl⟩⟩)))))) (b_ifT (et_tru (x_call T_begins_mark (ea_cons (x_m2 o2_catS (ev_get (e := eS) (x := self.kept) rfl) (x_v eS sign rfl)) ea_nil))) (b_fld (fun (u9_ : Ts) => [(e_Reader true) ({ self with kept := u9_ }), eS sign, (eO (e3 eI eS eS)) whole, .gone]) (eg_f (x_m2 o2_catS (ev_get (e := eS) (x := self.kept) rfl) (x_v eS sign rfl))) (fun _ => rfl) (fun (u9_ : Ts) => (b_ret (k := fun u10_ => (u10_, { self with kept := u9_ })) (eg_f (x_lst (f := (eL true (e3 eI eS eS))) (fun t : Unit => ([] : (List (Int × Ts × Ts)))) ea_nil (fun _ => rfl) (fun _ => (by decide : 0 ≤ LIM)))) (fun u10_ => ⟨rfl, ⟨.inl rfl, rfl⟩⟩)))) (b_asg (fun (u13_ : ((List (Int × Ts × Ts)) × OReader)) => [(e_Reader true) u13_.2, eS sign, (eO (e3 eI eS eS)) whole, (eL true (e3 eI eS eS)) u13_.1]) (eg_meth (x := self) (env := fun r12_ => [(e_Reader true) r12_.2, eS sign, (eO (e3 eI eS eS)) whole, .gone]) (T_Reader_told) rfl rfl (ea_cons (x_a1 o1_lenS (ev_get (e := eS) (x := self.kept) rfl)) ea_nil) (fun _ => rfl)) (fun _ => rfl) (fun (u13_ : ((List (Int × Ts × Ts)) × OReader)) => (b_fld (fun (u14_ : Ts) => [(e_Reader true) ({ u13_.2 with kept := u14_ }), eS sign, (eO (e3 eI eS eS)) whole, (eL true (e3 eI eS eS)) u13_.1]) (eg_r (x_v eS sign rfl)) (fun _ => rfl) (fun (u14_ : Ts) => (b_join (fun (s15_ : (OReader × (List (Int × Ts × Ts)))) => [(e_Reader true) s15_.1, eS sign, (eO (e3 eI eS eS)) whole, (eL true (e3 eI eS eS)) s15_.2]) (et_b (x_m2 (o2_ne (e' := eS) (by decide)) (x_v eS sign rfl) (x_k eS ['['] rfl))) (b_expr (eg_ext (a := (e3 eI eS eS)) (xs := fun r18_ => u13_.1) (ys := fun r18_ => r18_.1) (env := fun p_ => [(e_Reader true) p_.1.2, eS sign, (eO (e3 eI eS eS)) whole, (eL true (e3 eI eS eS)) p_.2]) rfl (eg_meth (x := { u13_.2 with kept := u14_ }) (env := fun r17_ => [(e_Reader true) r17_.2, eS sign, (eO (e3 eI eS eS)) whole, (eL true (e3 eI eS eS)) u13_.1]) (T_Reader_told) rfl rfl (ea_cons (x_k eI (1) rfl) ea_nil) (fun _ => rfl)) (fun _ => rfl) (fun _ => rfl) (fun _ => rfl)) (fun (u20_ : (((List (Int × Ts × Ts)) × OReader) × (List (Int × Ts × Ts)))) => (b_nil (t := (u20_.1.2, u20_.2)) ⟨rfl, rfl⟩))) (b_nil (t := ({ u13_.2 with kept := u14_ }, u13_.1)) ⟨rfl, rfl⟩) (fun (s15_ : (OReader × (List (Int × Ts × Ts)))) => (b_ret (k := fun u21_ => (u21_, s15_.1)) (eg_mv (eL true (e3 eI eS eS)) s15_.2 [(e_Reader true) s15_.1, eS sign, (eO (e3 eI eS eS)) whole, .gone] rfl rfl) (fun u21_ => ⟨.inl rfl, rfl⟩))))))))))))
  refine run_T (n := 4) (kp := [true, true]) (m := m_Reader_take) (ds := [(e_Reader true) self, eS sign]) rfl hb ?_
  first
    | (simp -implicitDefEqProofs only [t_Reader_take, Option.bind_assoc, Option.bind_some, bind_same] at h ⊢; exact h)
    | (simp -implicitDefEqProofs only [t_Reader_take, Option.bind_assoc, Option.bind_some, bind_same] at h; exact h)
    | exact h
    | (simp [t_Reader_take] at h ⊢; exact h)
theorem T_Reader_take : Tm (τ := Ts × Unit) (e_Reader true) (fun t => [eS t.1]) (fun r : ((List (Int × Ts × Ts)) × OReader) => (eL true (e3 eI eS eS)) r.1) (fun r => r.2) F_Reader_take (fun x t => t_Reader_take x t.1) := fun x t r h => ⟨_, L_Reader_take x t.1 h⟩
theorem L_Reader_feed  (self : OReader) (piece : Ts) {r : ((List (Int × Ts × Ts)) × OReader)} (h : t_Reader_feed self piece = some r) : F_Reader_feed [(e_Reader true) self, eS piece] = some ((fun r : ((List (Int × Ts × Ts)) × OReader) => (eL true (e3 eI eS eS)) r.1) r, (fun r : ((List (Int × Ts × Ts)) × OReader) => e_Reader true r.2 :: [eS piece]) r) := by
  have hb : Bk (Qf (fun r : ((List (Int × Ts × Ts)) × OReader) => (eL true (e3 eI eS eS)) r.1) [true, true] (fun r : ((List (Int × Ts × Ts)) × OReader) => e_Reader true r.2 :: [eS piece])) m_Reader_feed [(e_Reader true) self, eS piece, .gone, .gone] _ := (b_expr (eg_f (x_call T_checked (ea_cons (x_v eS piece rfl) ea_nil))) (fun (u1_ : Unit) => (b_asg (fun (found : (List (Int × Ts × Ts))) => [(e_Reader true) self, eS piece, (eL true (e3 eI eS eS)) found, .gone]) (eg_f (x_lst (f := (eL true (e3 eI eS eS))) (fun t : Unit => ([] : (List (Int × Ts × Ts)))) ea_nil (fun _ => rfl) (fun _ => (by decide : 0 ≤ LIM)))) (fun _ => rfl) (fun (found : (List (Int × Ts × Ts))) => (b_for (fun (s2_ : (OReader × (List (Int × Ts × Ts)))) => [(e_Reader true) s2_.1, eS piece, (eL true (e3 eI eS eS)) s2_.2, .gone]) (self, found) (fun (s2_ : (OReader × (List (Int × Ts × Ts)))) (sign : Ts) => [(e_Reader true) s2_.1, eS piece, (eL true (e3 eI eS eS)) s2_.2, eS sign]) (ei_it (x_v eS piece rfl)) rfl (fun _ _ => rfl) (fun (s2_ : (OReader × (List (Int × Ts × Ts)))) (sign : Ts) => (b_expr (eg_ext (a := (e3 eI eS eS)) (xs := fun r5_ => s2_.2) (ys := fun r5_ => r5_.1) (env := fun p_ => [(e_Reader true) p_.1.2, eS piece, (eL true (e3 eI eS eS)) p_.2, eS sign]) rfl (eg_meth (x := s2_.1) (env := fun r4_ => [(e_Reader true) r4_.2, eS piece, (eL true (e3 eI eS eS)) s2_.2, eS sign]) (T_Reader_take) rfl rfl (ea_cons (x_v eS sign rfl) ea_nil) (fun _ => rfl)) (fun _ => rfl) (fun _ => rfl) (fun _ => rfl)) (fun (u7_ : (((List (Int × Ts × Ts)) × OReader) × (List (Int × Ts × Ts)))) => (b_nil (t := (u7_.1.2, u7_.2)) ⟨rfl, rfl⟩)))) (fun (s2_ : (OReader × (List (Int × Ts × Ts)))) => (b_ret (k := fun u8_ => (u8_, s2_.1)) (eg_mv (eL true (e3 eI eS eS)) s2_.2 [(e_Reader true) s2_.1, eS piece, .gone, .gone] rfl rfl) (fun u8_ => ⟨.inl rfl, rfl⟩))))))))
  refine run_T (n := 4) (kp := [true, true]) (m := m_Reader_feed) (ds := [(e_Reader true) self, eS piece]) rfl hb ?_
  first
    | (simp -implicitDefEqProofs only [t_Reader_feed, Option.bind_assoc, Option.bind_some, bind_same] at h ⊢; exact h)
    | (simp -implicitDefEqProofs only [t_Reader_feed, Option.bind_assoc, Option.bind_some, bind_same] at h; exact h)
    | exact h
    | (simp [t_Reader_feed] at h ⊢; exact h)
theorem T_Reader_feed : Tm (τ := Ts × Unit) (e_Reader true) (fun t => [eS t.1]) (fun r : ((List (Int × Ts × Ts)) × OReader) => (eL true (e3 eI eS eS)) r.1) (fun r => r.2) F_Reader_feed (fun x t => t_Reader_feed x t.1) := fun x t r h => ⟨_, L_Reader_feed x t.1 h⟩
theorem L_Reader_finish  (self : OReader) {r : ((List (Int × Ts × Ts)) × OReader)} (h : t_Reader_finish self = some r) : F_Reader_finish [(e_Reader true) self] = some ((fun r : ((List (Int × Ts × Ts)) × OReader) => (eL true (e3 eI eS eS)) r.1) r, (fun r : ((List (Int × Ts × Ts)) × OReader) => e_Reader true r.2 :: []) r) := by
  have hb : Bk (Qf (fun r : ((List (Int × Ts × Ts)) × OReader) => (eL true (e3 eI eS eS)) r.1) [true] (fun r : ((List (Int × Ts × Ts)) × OReader) => e_Reader true r.2 :: [])) m_Reader_finish [(e_Reader true) self] _ := (b_ret (k := fun u3_ => (u3_.1, u3_.2)) (eg_meth (x := self) (env := fun r2_ => [(e_Reader true) r2_.2]) (T_Reader_told) rfl rfl (ea_cons (x_a1 o1_lenS (ev_get (e := eS) (x := self.kept) rfl)) ea_nil) (fun _ => rfl)) (fun u3_ => ⟨.inl rfl, rfl⟩))
  refine run_T (n := 1) (kp := [true]) (m := m_Reader_finish) (ds := [(e_Reader true) self]) rfl hb ?_
  first
    | (simp -implicitDefEqProofs only [t_Reader_finish, Option.bind_assoc, Option.bind_some, bind_same] at h ⊢; exact h)
    | (simp -implicitDefEqProofs only [t_Reader_finish, Option.bind_assoc, Option.bind_some, bind_same] at h; exact h)
    | exact h
    | (simp [t_Reader_finish] at h ⊢; exact h)
theorem T_Reader_finish : Tm (τ := Unit) (e_Reader true) (fun t => []) (fun r : ((List (Int × Ts × Ts)) × OReader) => (eL true (e3 eI eS eS)) r.1) (fun r => r.2) F_Reader_finish (fun x t => t_Reader_finish x ) := fun x t r h => ⟨_, L_Reader_finish x  h⟩
theorem L_items_of  (text : Ts) {r : (List (Int × Ts × Ts))} (h : t_items_of text = some r) : F_items_of [eS text] = some ((eL true (e3 eI eS eS)) r, (fun _ => [eS text]) r) := by
  have hb : Bk (Qf (eL true (e3 eI eS eS)) [true] (fun _ => [eS text])) m_items_of [eS text, .gone, .gone] _ := (b_asg (fun (reader : OReader) => [eS text, (e_Reader true) reader, .gone]) (eg_f (x_mk T_Reader_init ea_nil)) (fun _ => rfl) (fun (reader : OReader) => (b_asgC (ic := icFst) (fun (u2_ : ((List (Int × Ts × Ts)) × OReader)) => [eS text, (e_Reader true) u2_.2, (eL false (e3 eI eS eS)) u2_.1]) (eg_meth (x := reader) (env := fun r1_ => [eS text, (e_Reader true) r1_.2, .gone]) (T_Reader_feed) rfl rfl (ea_cons (x_v eS text rfl) ea_nil) (fun _ => rfl)) (fun _ => rfl) (fun _ => rfl) (fun (u2_ : ((List (Int × Ts × Ts)) × OReader)) => (b_ret (k := fun u7_ => u7_.1) (eg_binV o2_catL (eg_meth (x := u2_.2) (env := fun r4_ => [eS text, (e_Reader true) r4_.2, (eL false (e3 eI eS eS)) u2_.1]) (T_Reader_finish) rfl rfl ea_nil (fun _ => rfl)) (fun r5_ => r5_.1) (fun _ => rfl) rfl (fun _ => rfl)) (fun u7_ => ⟨.inl rfl, rfl⟩))))))
  refine run_T (n := 3) (kp := [true]) (m := m_items_of) (ds := [eS text]) rfl hb ?_
  first
    | (simp -implicitDefEqProofs only [t_items_of, Option.bind_assoc, Option.bind_some, bind_same] at h ⊢; exact h)
    | (simp -implicitDefEqProofs only [t_items_of, Option.bind_assoc, Option.bind_some, bind_same] at h; exact h)
    | exact h
    | (simp [t_items_of] at h ⊢; exact h)
theorem T_items_of : Tf (τ := Ts × Unit) (fun t => [eS t.1]) (eL true (e3 eI eS eS)) F_items_of (fun t => t_items_of t.1) := fun t r h => ⟨_, L_items_of t.1 h⟩
theorem L_checked_most  (most : Int) {r : Unit} (h : t_checked_most most = some r) : F_checked_most [eI most] = some (eU r, (fun _ => [eI most]) r) := by
  have hb : Bk (Qf eU [true] (fun _ => [eI most])) m_checked_most [eI most] _ := (b_ifT (et_orT (et_not (et_tru (x_isK kit_int_int (x_v eI most rfl)))) (et_orT (et_tru (x_isK kit_int_bool (x_v eI most rfl))) (et_not (et_b (x_chT o2_leI o2_leI (x_k eI (1) rfl) (x_v eI most rfl) (x_k eI (200) rfl)))))) b_never (b_nil (t := ()) ⟨.inr ⟨rfl, rfl⟩, rfl⟩))
  refine run_T (n := 1) (kp := [true]) (m := m_checked_most) (ds := [eI most]) rfl hb ?_
  first
    | (simp -implicitDefEqProofs only [t_checked_most, Option.bind_assoc, Option.bind_some, bind_same] at h ⊢; exact h)
    | (simp -implicitDefEqProofs only [t_checked_most, Option.bind_assoc, Option.bind_some, bind_same] at h; exact h)
    | exact h
    | (simp [t_checked_most] at h ⊢; exact h)
theorem T_checked_most : Tf (τ := Int × Unit) (fun t => [eI t.1]) eU F_checked_most (fun t => t_checked_most t.1) := fun t r h => ⟨_, L_checked_most t.1 h⟩
theorem L_Maker_init  (most : Int) {r : OMaker} (h : t_Maker_init most = some r) : F_Maker_init [.obj true 4 [] [], eI most] = some ((fun _ => .non) r, (fun r : OMaker => e_Maker true r :: [eI most]) r) := by
  have hb : Bk (Qf (fun _ => .non) [true, true] (fun r : OMaker => e_Maker true r :: [eI most])) m_Maker_init [(fun _ => .obj true 4 [] []) (), eI most] _ := (b_expr (eg_f (x_call T_checked_most (ea_cons (x_v eI most rfl) ea_nil))) (fun (u1_ : Unit) => (b_fld (fun (u2_ : Int) => [(fun _ => .obj true 4 ["most"] [eI u2_]) (), eI most]) (eg_r (x_v eI most rfl)) (fun _ => rfl) (fun (u2_ : Int) => (b_fld (fun (u3_ : (List (Ts × Ts × Ts × Int))) => [(fun _ => .obj true 4 ["most", "row"] [eI u2_, (eL true (e4 eS eS eS eI)) u3_]) (), eI most]) (eg_f (x_lst (f := (eL true (e4 eS eS eS eI))) (fun t : Unit => ([] : (List (Ts × Ts × Ts × Int)))) ea_nil (fun _ => rfl) (fun _ => (by decide : 0 ≤ LIM)))) (fun _ => rfl) (fun (u3_ : (List (Ts × Ts × Ts × Int))) => (b_fld (fun (u4_ : Ts) => [(fun _ => .obj true 4 ["most", "row", "ink"] [eI u2_, (eL true (e4 eS eS eS eI)) u3_, eS u4_]) (), eI most]) (eg_f (x_k eS ['.'] rfl)) (fun _ => rfl) (fun (u4_ : Ts) => (b_fld (fun (u5_ : Ts) => [(fun _ => .obj true 4 ["most", "row", "ink", "ground"] [eI u2_, (eL true (e4 eS eS eS eI)) u3_, eS u4_, eS u5_]) (), eI most]) (eg_f (x_k eS ['.'] rfl)) (fun _ => rfl) (fun (u5_ : Ts) => (b_fld (fun (u6_ : Bool) => [(fun _ => .obj true 4 ["most", "row", "ink", "ground", "stale"] [eI u2_, (eL true (e4 eS eS eS eI)) u3_, eS u4_, eS u5_, eB u6_]) (), eI most]) (eg_f (x_k eB false rfl)) (fun _ => rfl) (fun (u6_ : Bool) => (b_fld (fun (u7_ : Bool) => [e_Maker true ({ most := u2_, row := u3_, ink := u4_, ground := u5_, stale := u6_, more := u7_ : OMaker }), eI most]) (eg_f (x_k eB false rfl)) (fun _ => rfl) (fun (u7_ : Bool) => (b_nil (t := ({ most := u2_, row := u3_, ink := u4_, ground := u5_, stale := u6_, more := u7_ : OMaker })) ⟨.inr ⟨rfl, rfl⟩, rfl⟩)))))))))))))))
  refine run_T (n := 2) (kp := [true, true]) (m := m_Maker_init) (ds := [.obj true 4 [] [], eI most]) rfl hb ?_
  first
    | (simp -implicitDefEqProofs only [t_Maker_init, Option.bind_assoc, Option.bind_some, bind_same] at h ⊢; exact h)
    | (simp -implicitDefEqProofs only [t_Maker_init, Option.bind_assoc, Option.bind_some, bind_same] at h; exact h)
    | exact h
    | (simp [t_Maker_init] at h ⊢; exact h)
theorem T_Maker_init : Tn (τ := Int × Unit) 4 (fun t => [eI t.1]) (e_Maker true) F_Maker_init (fun t => t_Maker_init t.1) := fun t r h => ⟨_, L_Maker_init t.1 h⟩
theorem L_Maker_open_letters (o_ : Bool) (self : OMaker) {r : (List (Ts × Ts × Ts × Int))} (h : t_Maker_open_letters self = some r) : F_Maker_open_letters [(e_Maker o_) self] = some ((eL true (e4 eS eS eS eI)) r, (fun _ => [(e_Maker o_) self]) r) := by
  have hb : Bk (Qf (eL true (e4 eS eS eS eI)) [true] (fun _ => [(e_Maker o_) self])) m_Maker_open_letters [(e_Maker o_) self] _ := (b_ret (k := fun u1_ => u1_) (eg_f (x_a1 o1_listL (ev_get (e := (eL o_ (e4 eS eS eS eI))) (x := self.row) rfl))) (fun u1_ => ⟨.inl rfl, rfl⟩))
  refine run_T (n := 1) (kp := [true]) (m := m_Maker_open_letters) (ds := [(e_Maker o_) self]) rfl hb ?_
  first
    | (simp -implicitDefEqProofs only [t_Maker_open_letters, Option.bind_assoc, Option.bind_some, bind_same] at h ⊢; exact h)
    | (simp -implicitDefEqProofs only [t_Maker_open_letters, Option.bind_assoc, Option.bind_some, bind_same] at h; exact h)
    | exact h
    | (simp [t_Maker_open_letters] at h ⊢; exact h)
theorem T_Maker_open_letters {o_ : Bool} : To (τ := Unit) (e_Maker o_) (fun t => []) (eL true (e4 eS eS eS eI)) F_Maker_open_letters (fun x t => t_Maker_open_letters x ) := fun x t r h => ⟨_, L_Maker_open_letters o_ x  h⟩
theorem L_Maker_make_plain  (self : OMaker) {r : OMaker} (h : t_Maker_make_plain self = some r) : F_Maker_make_plain [(e_Maker true) self] = some ((fun _ => .non) r, (fun r : OMaker => e_Maker true r :: []) r) := by
  have hb : Bk (Qf (fun _ => .non) [true] (fun r : OMaker => e_Maker true r :: [])) m_Maker_make_plain [(e_Maker true) self] _ := (b_fld (fun (u1_ : Ts) => [(e_Maker true) ({ self with ink := u1_ })]) (eg_f (x_k eS ['.'] rfl)) (fun _ => rfl) (fun (u1_ : Ts) => (b_fld (fun (u2_ : Ts) => [(e_Maker true) ({ { self with ink := u1_ } with ground := u2_ })]) (eg_f (x_k eS ['.'] rfl)) (fun _ => rfl) (fun (u2_ : Ts) => (b_nil (t := ({ { self with ink := u1_ } with ground := u2_ })) ⟨.inr ⟨rfl, rfl⟩, rfl⟩)))))
  refine run_T (n := 1) (kp := [true]) (m := m_Maker_make_plain) (ds := [(e_Maker true) self]) rfl hb ?_
  first
    | (simp -implicitDefEqProofs only [t_Maker_make_plain, Option.bind_assoc, Option.bind_some, bind_same] at h ⊢; exact h)
    | (simp -implicitDefEqProofs only [t_Maker_make_plain, Option.bind_assoc, Option.bind_some, bind_same] at h; exact h)
    | exact h
    | (simp [t_Maker_make_plain] at h ⊢; exact h)
theorem T_Maker_make_plain : Tm (τ := Unit) (e_Maker true) (fun t => []) (fun _ => .non) (fun r => r) F_Maker_make_plain (fun x t => t_Maker_make_plain x ) := fun x t r h => ⟨_, L_Maker_make_plain x  h⟩
theorem L_Maker_tell_part  (self : OMaker) (word : Ts) {r : ((List ((List (Ts × Ts × Ts × Int)) × Ts)) × OMaker)} (h : t_Maker_tell_part_b self word = some r) : F_Maker_tell_part [(e_Maker true) self, eS word] = some ((fun r : ((List ((List (Ts × Ts × Ts × Int)) × Ts)) × OMaker) => (eL true (e2 (eL true (e4 eS eS eS eI)) eS)) r.1) r, (fun r : ((List ((List (Ts × Ts × Ts × Int)) × Ts)) × OMaker) => e_Maker true r.2 :: [eS word]) r) := by
  have hb : Bk (Qf (fun r : ((List ((List (Ts × Ts × Ts × Int)) × Ts)) × OMaker) => (eL true (e2 (eL true (e4 eS eS eS eI)) eS)) r.1) [true, true] (fun r : ((List ((List (Ts × Ts × Ts × Int)) × Ts)) × OMaker) => e_Maker true r.2 :: [eS word])) m_Maker_tell_part [(e_Maker true) self, eS word, .gone] _ := (b_asg (fun (u4_ : (((List (Ts × Ts × Ts × Int)) × Ts) × (List (Ts × Ts × Ts × Int)) × Ts × Unit)) => [e_Maker__g0_row self, eS word, (e2 (eL true (e4 eS eS eS eI)) eS) u4_.1]) (eg_tupO (f := (e2 (eL true (e4 eS eS eS eI)) eS)) (fun (t3_ : (List (Ts × Ts × Ts × Int)) × Ts × Unit) => (t3_.1, t3_.2.1)) (eao_cons (eg_mv (eL true (e4 eS eS eS eI)) self.row [e_Maker__g0_row self, eS word, .gone] rfl rfl) (fun (r1_ : (List (Ts × Ts × Ts × Int))) => (eao_cons (eg_r (x_v eS word rfl)) (fun (r2_ : Ts) => eao_nil)))) (fun _ => rfl) (fun _ => (by decide : 2 ≤ LIM))) (fun _ => rfl) (fun (u4_ : (((List (Ts × Ts × Ts × Int)) × Ts) × (List (Ts × Ts × Ts × Int)) × Ts × Unit)) => (b_fld (fun (u5_ : (List (Ts × Ts × Ts × Int))) => [(e_Maker true) ({ self with row := u5_ }), eS word, (e2 (eL true (e4 eS eS eS eI)) eS) u4_.1]) (eg_f (x_lst (f := (eL true (e4 eS eS eS eI))) (fun t : Unit => ([] : (List (Ts × Ts × Ts × Int)))) ea_nil (fun _ => rfl) (fun _ => (by decide : 0 ≤ LIM)))) (fun _ => rfl) (fun (u5_ : (List (Ts × Ts × Ts × Int))) => (b_fld (fun (u6_ : Bool) => [(e_Maker true) ({ { self with row := u5_ } with stale := u6_ }), eS word, (e2 (eL true (e4 eS eS eS eI)) eS) u4_.1]) (eg_f (x_k eB false rfl)) (fun _ => rfl) (fun (u6_ : Bool) => (b_fld (fun (u7_ : Bool) => [(e_Maker true) ({ { { self with row := u5_ } with stale := u6_ } with more := u7_ }), eS word, (e2 (eL true (e4 eS eS eS eI)) eS) u4_.1]) (eg_f (x_m2 (o2_eq (e' := eS) (by decide)) (x_v eS word rfl) (x_k eS ['m', 'o', 'r', 'e'] rfl))) (fun _ => rfl) (fun (u7_ : Bool) => (b_ret (k := fun u10_ => (u10_.1, { { { self with row := u5_ } with stale := u6_ } with more := u7_ })) (eg_lstO (f := (eL true (e2 (eL true (e4 eS eS eS eI)) eS))) (fun (t9_ : ((List (Ts × Ts × Ts × Int)) × Ts) × Unit) => ([t9_.1] : (List ((List (Ts × Ts × Ts × Int)) × Ts)))) (eao_cons (eg_mv (e2 (eL true (e4 eS eS eS eI)) eS) u4_.1 [(e_Maker true) ({ { { self with row := u5_ } with stale := u6_ } with more := u7_ }), eS word, .gone] rfl rfl) (fun (r8_ : ((List (Ts × Ts × Ts × Int)) × Ts)) => eao_nil)) (fun _ => rfl) (fun _ => (by decide : 1 ≤ LIM))) (fun u10_ => ⟨.inl rfl, rfl⟩))))))))))
  refine run_T (n := 3) (kp := [true, true]) (m := m_Maker_tell_part) (ds := [(e_Maker true) self, eS word]) rfl hb ?_
  first
    | (simp -implicitDefEqProofs only [t_Maker_tell_part_b, Option.bind_assoc, Option.bind_some, bind_same] at h ⊢; exact h)
    | (simp -implicitDefEqProofs only [t_Maker_tell_part_b, Option.bind_assoc, Option.bind_some, bind_same] at h; exact h)
    | exact h
    | (simp [t_Maker_tell_part_b] at h ⊢; exact h)
theorem T_Maker_tell_part : Tm (τ := Ts × Unit) (e_Maker true) (fun t => [eS t.1]) (fun r : ((List ((List (Ts × Ts × Ts × Int)) × Ts)) × OMaker) => (eL true (e2 (eL true (e4 eS eS eS eI)) eS)) r.1) (fun r => r.2) F_Maker_tell_part (fun x t => t_Maker_tell_part_b x t.1) := fun x t r h => ⟨_, L_Maker_tell_part x t.1 h⟩
theorem L_Maker_put_sign  (self : OMaker) (sign : Ts) (place : Int) {r : ((List ((List (Ts × Ts × Ts × Int)) × Ts)) × OMaker)} (h : t_Maker_put_sign_b self sign place = some r) : F_Maker_put_sign [(e_Maker true) self, eS sign, eI place] = some ((fun r : ((List ((List (Ts × Ts × Ts × Int)) × Ts)) × OMaker) => (eL true (e2 (eL true (e4 eS eS eS eI)) eS)) r.1) r, (fun r : ((List ((List (Ts × Ts × Ts × Int)) × Ts)) × OMaker) => e_Maker true r.2 :: [eS sign, eI place]) r) := by
  have hb : Bk (Qf (fun r : ((List ((List (Ts × Ts × Ts × Int)) × Ts)) × OMaker) => (eL true (e2 (eL true (e4 eS eS eS eI)) eS)) r.1) [true, true, true] (fun r : ((List ((List (Ts × Ts × Ts × Int)) × Ts)) × OMaker) => e_Maker true r.2 :: [eS sign, eI place])) m_Maker_put_sign [(e_Maker true) self, eS sign, eI place, .gone] _ := (b_asg (fun (found : (List ((List (Ts × Ts × Ts × Int)) × Ts))) => [(e_Maker true) self, eS sign, eI place, (eL true (e2 (eL true (e4 eS eS eS eI)) eS)) found]) (eg_f (x_lst (f := (eL true (e2 (eL true (e4 eS eS eS eI)) eS))) (fun t : Unit => ([] : (List ((List (Ts × Ts × Ts × Int)) × Ts)))) ea_nil (fun _ => rfl) (fun _ => (by decide : 0 ≤ LIM)))) (fun _ => rfl) (fun (found : (List ((List (Ts × Ts × Ts × Int)) × Ts))) => (b_join (fun (s1_ : (OMaker × (List ((List (Ts × Ts × Ts × Int)) × Ts)))) => [(e_Maker true) s1_.1, eS sign, eI place, (eL true (e2 (eL true (e4 eS eS eS eI)) eS)) s1_.2]) (et_b (x_m2 (o2_eq (e' := eI) (by decide)) (x_a1 o1_lenL (ev_get (e := (eL true (e4 eS eS eS eI))) (x := self.row) rfl)) (ev_get (e := eI) (x := self.most) rfl))) (b_asg (fun (u3_ : ((List ((List (Ts × Ts × Ts × Int)) × Ts)) × OMaker)) => [(e_Maker true) u3_.2, eS sign, eI place, (eL true (e2 (eL true (e4 eS eS eS eI)) eS)) u3_.1]) (eg_meth (x := self) (env := fun r2_ => [(e_Maker true) r2_.2, eS sign, eI place, (eL true (e2 (eL true (e4 eS eS eS eI)) eS)) found]) (T_Maker_tell_part) rfl rfl (ea_cons (x_k eS ['m', 'o', 'r', 'e'] rfl) ea_nil) (fun _ => rfl)) (fun _ => rfl) (fun (u3_ : ((List ((List (Ts × Ts × Ts × Int)) × Ts)) × OMaker)) => (b_nil (t := (u3_.2, u3_.1)) ⟨rfl, rfl⟩))) (b_nil (t := (self, found)) ⟨rfl, rfl⟩) (fun (s1_ : (OMaker × (List ((List (Ts × Ts × Ts × Int)) × Ts)))) => (b_expr (eg_app (a := (e4 eS eS eS eI)) (xs := s1_.1.row) (env := fun r_ => [(e_Maker true) ({ s1_.1 with row := r_ }), eS sign, eI place, (eL true (e2 (eL true (e4 eS eS eS eI)) eS)) s1_.2]) rfl (x_tup (f := (e4 eS eS eS eI)) (fun t : Ts × Ts × Ts × Int × Unit => (t.1, t.2.1, t.2.2.1, t.2.2.2.1)) (ea_cons (x_v eS sign rfl) (ea_cons (ev_get (e := eS) (x := s1_.1.ink) rfl) (ea_cons (ev_get (e := eS) (x := s1_.1.ground) rfl) (ea_cons (x_v eI place rfl) ea_nil)))) (fun _ => rfl) (fun _ => (by decide : 4 ≤ LIM))) (fun _ => rfl)) (fun (u4_ : (List (Ts × Ts × Ts × Int))) => (b_ret (k := fun u5_ => (u5_, { s1_.1 with row := u4_ })) (eg_mv (eL true (e2 (eL true (e4 eS eS eS eI)) eS)) s1_.2 [(e_Maker true) ({ s1_.1 with row := u4_ }), eS sign, eI place, .gone] rfl rfl) (fun u5_ => ⟨.inl rfl, rfl⟩))))))))
  refine run_T (n := 4) (kp := [true, true, true]) (m := m_Maker_put_sign) (ds := [(e_Maker true) self, eS sign, eI place]) rfl hb ?_
  first
    | (simp -implicitDefEqProofs only [t_Maker_put_sign_b, Option.bind_assoc, Option.bind_some, bind_same] at h ⊢; exact h)
    | (simp -implicitDefEqProofs only [t_Maker_put_sign_b, Option.bind_assoc, Option.bind_some, bind_same] at h; exact h)
    | exact h
    | (simp [t_Maker_put_sign_b] at h ⊢; exact h)
theorem T_Maker_put_sign : Tm (τ := Ts × Int × Unit) (e_Maker true) (fun t => [eS t.1, eI t.2.1]) (fun r : ((List ((List (Ts × Ts × Ts × Int)) × Ts)) × OMaker) => (eL true (e2 (eL true (e4 eS eS eS eI)) eS)) r.1) (fun r => r.2) F_Maker_put_sign (fun x t => t_Maker_put_sign_b x t.1 t.2.1) := fun x t r h => ⟨_, L_Maker_put_sign x t.1 t.2.1 h⟩
theorem L_Maker_put  (self : OMaker) (item : (Int × Ts × Ts)) {r : ((List ((List (Ts × Ts × Ts × Int)) × Ts)) × OMaker)} (h : t_Maker_put_b self item = some r) : F_Maker_put [(e_Maker true) self, (e3 eI eS eS) item] = some ((fun r : ((List ((List (Ts × Ts × Ts × Int)) × Ts)) × OMaker) => (eL true (e2 (eL true (e4 eS eS eS eI)) eS)) r.1) r, (fun r : ((List ((List (Ts × Ts × Ts × Int)) × Ts)) × OMaker) => e_Maker true r.2 :: [(e3 eI eS eS) item]) r) := by
  have hb : Bk (Qf (fun r : ((List ((List (Ts × Ts × Ts × Int)) × Ts)) × OMaker) => (eL true (e2 (eL true (e4 eS eS eS eI)) eS)) r.1) [true, true] (fun r : ((List ((List (Ts × Ts × Ts × Int)) × Ts)) × OMaker) => e_Maker true r.2 :: [(e3 eI eS eS) item])) m_Maker_put [(e_Maker true) self, (e3 eI eS eS) item, .gone, .gone, .gone] _ := (b_asg (fun (u1_ : (Int × Ts × Ts)) => [(e_Maker true) self, (e3 eI eS eS) item, eI u1_.1, eS u1_.2.1, eS u1_.2.2]) (eg_r (x_v (e3 eI eS eS) item rfl)) (fun _ => rfl) (fun (u1_ : (Int × Ts × Ts)) => (b_ifT (et_b (x_m2 (o2_eq (e' := eS) (by decide)) (x_v eS u1_.2.1 rfl) (x_k eS ['e', 'n', 'd'] rfl))) (b_expr (eg_meth (x := self) (env := fun r2_ => [(e_Maker true) r2_, (e3 eI eS eS) item, eI u1_.1, eS u1_.2.1, eS u1_.2.2]) (T_Maker_make_plain) rfl rfl ea_nil (fun _ => rfl)) (fun (u3_ : OMaker) => (b_ret (k := fun u5_ => (u5_.1, u5_.2)) (eg_meth (x := u3_) (env := fun r4_ => [(e_Maker true) r4_.2, (e3 eI eS eS) item, eI u1_.1, eS u1_.2.1, eS u1_.2.2]) (T_Maker_tell_part) rfl rfl (ea_cons (x_k eS ['w', 'h', 'o', 'l', 'e'] rfl) ea_nil) (fun _ => rfl)) (fun u5_ => ⟨rfl, ⟨.inl rfl, rfl⟩⟩)))) (b_ifT (et_b (x_m2 (o2_eq (e' := eS) (by decide)) (x_v eS u1_.2.1 rfl) (x_k eS ['a', 'n', 'e', 'w'] rfl))) (b_expr (eg_meth (x := self) (env := fun r6_ => [(e_Maker true) r6_, (e3 eI eS eS) item, eI u1_.1, eS u1_.2.1, eS u1_.2.2]) (T_Maker_make_plain) rfl rfl ea_nil (fun _ => rfl)) (fun (u7_ : OMaker) => (b_fld (fun (u8_ : Bool) => [(e_Maker true) ({ u7_ with stale := u8_ }), (e3 eI eS eS) item, eI u1_.1, eS u1_.2.1, eS u1_.2.2]) (eg_f (x_k eB true rfl)) (fun _ => rfl) (fun (u8_ : Bool) => (b_ret (k := fun u9_ => (u9_, { u7_ with stale := u8_ })) (eg_f (x_lst (f := (eL true (e2 (eL true (e4 eS eS eS eI)) eS))) (fun t : Unit => ([] : (List ((List (Ts × Ts × Ts × Int)) × Ts)))) ea_nil (fun _ => rfl) (fun _ => (by decide : 0 ≤ LIM)))) (fun u9_ => ⟨rfl, ⟨.inl rfl, rfl⟩⟩)))))) (b_join (fun (s10_ : OMaker) => [(e_Maker true) s10_, (e3 eI eS eS) item, eI u1_.1, eS u1_.2.1, eS u1_.2.2]) (et_tru (ev_get (e := eB) (x := self.stale) rfl)) (b_fld (fun (u11_ : (List (Ts × Ts × Ts × Int))) => [(e_Maker true) ({ self with row := u11_ }), (e3 eI eS eS) item, eI u1_.1, eS u1_.2.1, eS u1_.2.2]) (eg_f (x_lst (f := (eL true (e4 eS eS eS eI))) (fun t : Unit => ([] : (List (Ts × Ts × Ts × Int)))) ea_nil (fun _ => rfl) (fun _ => (by decide : 0 ≤ LIM)))) (fun _ => rfl) (fun (u11_ : (List (Ts × Ts × Ts × Int))) => (b_fld (fun (u12_ : Bool) => [(e_Maker true) ({ { self with row := u11_ } with stale := u12_ }), (e3 eI eS eS) item, eI u1_.1, eS u1_.2.1, eS u1_.2.2]) (eg_f (x_k eB false rfl)) (fun _ => rfl) (fun (u12_ : Bool) => (b_nil (t := ({ { self with row := u11_ } with stale := u12_ })) ⟨rfl, rfl⟩))))) (b_nil (t := self) ⟨rfl, rfl⟩) (fun (s10_ : OMaker) => (b_ifT (et_b (x_m2 (o2_eq (e' := eS) (by decide)) (x_v eS u1_.2.1 rfl) (x_k eS ['s', 'i', 'g', 'n'] rfl))) (b_ret (k := fun u14_ => (u14_.1, u14_.2)) (eg_meth (x := s10_) (env := fun r13_ => [(e_Maker true) r13_.2, (e3 eI eS eS) item, eI u1_.1, eS u1_.2.1, eS u1_.2.2]) (T_Maker_put_sign) rfl rfl (ea_cons (x_v eS u1_.2.2 rfl) (ea_cons (x_v eI u1_.1 rfl) ea_nil)) (fun _ => rfl)) (fun u14_ => ⟨rfl, ⟨.inl rfl, rfl⟩⟩)) (b_join (fun (s15_ : OMaker) => [(e_Maker true) s15_, (e3 eI eS eS) item, eI u1_.1, eS u1_.2.1, eS u1_.2.2]) (et_b (x_m2 (o2_eq (e' := eS) (by decide)) (x_v eS u1_.2.1 rfl) (x_k eS ['i', 'n', 'k'] rfl))) (b_fld (fun (u16_ : Ts) => [(e_Maker true) ({ s10_ with ink := u16_ }), (e3 eI eS eS) item, eI u1_.1, eS u1_.2.1, eS u1_.2.2]) (eg_r (x_v eS u1_.2.2 rfl)) (fun _ => rfl) (fun (u16_ : Ts) => (b_nil (t := ({ s10_ with ink := u16_ })) ⟨rfl, rfl⟩))) (b_join (fun (s17_ : OMaker) => [(e_Maker true) s17_, (e3 eI eS eS) item, eI u1_.1, eS u1_.2.1, eS u1_.2.2]) (et_b (x_m2 (o2_eq (e' := eS) (by decide)) (x_v eS u1_.2.1 rfl) (x_k eS ['g', 'r', 'o', 'u', 'n', 'd'] rfl))) (b_fld (fun (u18_ : Ts) => [(e_Maker true) ({ s10_ with ground := u18_ }), (e3 eI eS eS) item, eI u1_.1, eS u1_.2.1, eS u1_.2.2]) (eg_r (x_v eS u1_.2.2 rfl)) (fun _ => rfl) (fun (u18_ : Ts) => (b_nil (t := ({ s10_ with ground := u18_ })) ⟨rfl, rfl⟩))) (b_expr (eg_meth (x := s10_) (env := fun r19_ => [(e_Maker true) r19_, (e3 eI eS eS) item, eI u1_.1, eS u1_.2.1, eS u1_.2.2]) (T_Maker_make_plain) rfl rfl ea_nil (fun _ => rfl)) (fun (u20_ : OMaker) => (b_nil (t := u20_) ⟨rfl, rfl⟩))) (fun (s17_ : OMaker) => (b_nil (t := s17_) ⟨rfl, rfl⟩))) (fun (s15_ : OMaker) => (b_ret (k := fun u21_ => (u21_, s15_)) (eg_f (x_lst (f := (eL true (e2 (eL true (e4 eS eS eS eI)) eS))) (fun t : Unit => ([] : (List ((List (Ts × Ts × Ts × Int)) × Ts)))) ea_nil (fun _ => rfl) (fun _ => (by decide : 0 ≤ LIM)))) (fun u21_ => ⟨.inl rfl, rfl⟩)))))))))))
  refine run_T (n := 5) (kp := [true, true]) (m := m_Maker_put) (ds := [(e_Maker true) self, (e3 eI eS eS) item]) rfl hb ?_
  first
    | (simp -implicitDefEqProofs only [t_Maker_put_b, Option.bind_assoc, Option.bind_some, bind_same] at h ⊢; exact h)
    | (simp -implicitDefEqProofs only [t_Maker_put_b, Option.bind_assoc, Option.bind_some, bind_same] at h; exact h)
    | exact h
    | (simp [t_Maker_put_b] at h ⊢; exact h)
theorem T_Maker_put : Tm (τ := (Int × Ts × Ts) × Unit) (e_Maker true) (fun t => [(e3 eI eS eS) t.1]) (fun r : ((List ((List (Ts × Ts × Ts × Int)) × Ts)) × OMaker) => (eL true (e2 (eL true (e4 eS eS eS eI)) eS)) r.1) (fun r => r.2) F_Maker_put (fun x t => t_Maker_put_b x t.1) := fun x t r h => ⟨_, L_Maker_put x t.1 h⟩
theorem L_rows_of  (text : Ts) (most : Int) {r : ((List ((List (Ts × Ts × Ts × Int)) × Ts)) × (List (Ts × Ts × Ts × Int)))} (h : t_rows_of text most = some r) : F_rows_of [eS text, eI most] = some ((e2 (eL true (e2 (eL true (e4 eS eS eS eI)) eS)) (eL true (e4 eS eS eS eI))) r, (fun _ => [eS text, eI most]) r) := by
  have hb : Bk (Qf (e2 (eL true (e2 (eL true (e4 eS eS eS eI)) eS)) (eL true (e4 eS eS eS eI))) [true, true] (fun _ => [eS text, eI most])) m_rows_of [eS text, eI most, .gone, .gone, .gone] _ := (b_asg (fun (maker : OMaker) => [eS text, eI most, (e_Maker true) maker, .gone, .gone]) (eg_f (x_mk T_Maker_init (ea_cons (x_v eI most rfl) ea_nil))) (fun _ => rfl) (fun (maker : OMaker) => (b_asg (fun (parts : (List ((List (Ts × Ts × Ts × Int)) × Ts))) => [eS text, eI most, (e_Maker true) maker, (eL true (e2 (eL true (e4 eS eS eS eI)) eS)) parts, .gone]) (eg_f (x_lst (f := (eL true (e2 (eL true (e4 eS eS eS eI)) eS))) (fun t : Unit => ([] : (List ((List (Ts × Ts × Ts × Int)) × Ts)))) ea_nil (fun _ => rfl) (fun _ => (by decide : 0 ≤ LIM)))) (fun _ => rfl) (fun (parts : (List ((List (Ts × Ts × Ts × Int)) × Ts))) => (b_for (fun (s2_ : (OMaker × (List ((List (Ts × Ts × Ts × Int)) × Ts)))) => [eS text, eI most, (e_Maker true) s2_.1, (eL true (e2 (eL true (e4 eS eS eS eI)) eS)) s2_.2, .gone]) (maker, parts) (fun (s2_ : (OMaker × (List ((List (Ts × Ts × Ts × Int)) × Ts)))) (item : (Int × Ts × Ts)) => [eS text, eI most, (e_Maker true) s2_.1, (eL true (e2 (eL true (e4 eS eS eS eI)) eS)) s2_.2, (e3 eI eS eS) item]) (ei_it (x_cold (x_call T_items_of (ea_cons (x_v eS text rfl) ea_nil)))) rfl (fun _ _ => rfl) (fun (s2_ : (OMaker × (List ((List (Ts × Ts × Ts × Int)) × Ts)))) (item : (Int × Ts × Ts)) => (b_expr (eg_extO (a := (e2 (eL true (e4 eS eS eS eI)) eS)) (xs := fun r5_ => s2_.2) (ys := fun r5_ => r5_.1) (env := fun p_ => [eS text, eI most, (e_Maker true) p_.1.2, (eL true (e2 (eL true (e4 eS eS eS eI)) eS)) p_.2, (e3 eI eS eS) item]) rfl (eg_meth (x := s2_.1) (env := fun r4_ => [eS text, eI most, (e_Maker true) r4_.2, (eL true (e2 (eL true (e4 eS eS eS eI)) eS)) s2_.2, (e3 eI eS eS) item]) (T_Maker_put) rfl rfl (ea_cons (x_v (e3 eI eS eS) item rfl) ea_nil) (fun _ => rfl)) (fun _ => rfl) (fun _ => rfl) (fun _ => rfl)) (fun (u7_ : (((List ((List (Ts × Ts × Ts × Int)) × Ts)) × OMaker) × (List ((List (Ts × Ts × Ts × Int)) × Ts)))) => (b_nil (t := (u7_.1.2, u7_.2)) ⟨rfl, rfl⟩)))) (fun (s2_ : (OMaker × (List ((List (Ts × Ts × Ts × Int)) × Ts)))) => (b_ret (k := fun u12_ => u12_.1) (eg_tupO (f := (e2 (eL true (e2 (eL true (e4 eS eS eS eI)) eS)) (eL true (e4 eS eS eS eI)))) (fun (t11_ : (List ((List (Ts × Ts × Ts × Int)) × Ts)) × (List (Ts × Ts × Ts × Int)) × Unit) => (t11_.1, t11_.2.1)) (eao_cons (eg_mv (eL true (e2 (eL true (e4 eS eS eS eI)) eS)) s2_.2 [eS text, eI most, (e_Maker true) s2_.1, .gone, .gone] rfl rfl) (fun (r8_ : (List ((List (Ts × Ts × Ts × Int)) × Ts))) => (eao_cons (to_tm (x := s2_.1) T_Maker_open_letters rfl rfl ea_nil rfl) (fun (r10_ : (List (Ts × Ts × Ts × Int))) => eao_nil)))) (fun _ => rfl) (fun _ => (by decide : 2 ≤ LIM))) (fun u12_ => ⟨.inl rfl, rfl⟩))))))))
  refine run_T (n := 5) (kp := [true, true]) (m := m_rows_of) (ds := [eS text, eI most]) rfl hb ?_
  first
    | (simp -implicitDefEqProofs only [t_rows_of, Option.bind_assoc, Option.bind_some, bind_same] at h ⊢; exact h)
    | (simp -implicitDefEqProofs only [t_rows_of, Option.bind_assoc, Option.bind_some, bind_same] at h; exact h)
    | exact h
    | (simp [t_rows_of] at h ⊢; exact h)
theorem T_rows_of : Tf (τ := Ts × Int × Unit) (fun t => [eS t.1, eI t.2.1]) (e2 (eL true (e2 (eL true (e4 eS eS eS eI)) eS)) (eL true (e4 eS eS eS eI))) F_rows_of (fun t => t_rows_of t.1 t.2.1) := fun t r h => ⟨_, L_rows_of t.1 t.2.1 h⟩
theorem L_lw_cell  (script : (List Int)) (k : Int) {r : Int} (h : t_lw_cell script k = some r) : F_lw_cell [eC script, eI k] = some (eI r, (fun _ => [eC script, eI k]) r) := by
  have hb : Bk (Qf eI [true, true] (fun _ => [eC script, eI k])) m_lw_cell [eC script, eI k] _ := (b_ifT (et_b (x_m2 o2_ltI (x_v eI k rfl) (x_a1 o1_lenC (x_v eC script rfl)))) (b_retI (eg_r (x_m2 o2_ixC (x_v eC script rfl) (x_v eI k rfl))) (fun u1_ => ⟨rfl, ⟨.inl rfl, rfl⟩⟩)) (b_ret (k := fun u2_ => u2_) (eg_f (x_k eI (0) rfl)) (fun u2_ => ⟨.inl rfl, rfl⟩)))
  refine run_T (n := 2) (kp := [true, true]) (m := m_lw_cell) (ds := [eC script, eI k]) rfl hb ?_
  first
    | (simp -implicitDefEqProofs only [t_lw_cell, Option.bind_assoc, Option.bind_some, bind_same] at h ⊢; exact h)
    | (simp -implicitDefEqProofs only [t_lw_cell, Option.bind_assoc, Option.bind_some, bind_same] at h; exact h)
    | exact h
    | (simp [t_lw_cell] at h ⊢; exact h)
theorem T_lw_cell : Tf (τ := (List Int) × Int × Unit) (fun t => [eC t.1, eI t.2.1]) eI F_lw_cell (fun t => t_lw_cell t.1 t.2.1) := fun t r h => ⟨_, L_lw_cell t.1 t.2.1 h⟩
theorem L_lw_mix  (cell_here : Int) (k : Int) {r : Int} (h : t_lw_mix cell_here k = some r) : F_lw_mix [eI cell_here, eI k] = some (eI r, (fun _ => [eI cell_here, eI k]) r) := by
  have hb : Bk (Qf eI [true, true] (fun _ => [eI cell_here, eI k])) m_lw_mix [eI cell_here, eI k, .gone, .gone, .gone] _ := (b_ifT (et_b (x_m2 o2_gtI (x_v eI cell_here rfl) (x_pow 10 18 1000000000000000000 (by decide)))) (b_asg (fun (rest : Int) => [eI cell_here, eI k, eI rest, .gone, .gone]) (eg_r (x_v eI cell_here rfl)) (fun _ => rfl) (fun (rest : Int) => (b_for (fun (s1_ : Int) => [eI cell_here, eI k, eI s1_, .gone, .gone]) rest (fun (s1_ : Int) (turn : Int) => [eI cell_here, eI k, eI s1_, eI turn, .gone]) (ei_rng1 (x_v eI k rfl)) rfl (fun _ _ => rfl) (fun (s1_ : Int) (turn : Int) => (b_asg (fun (rest : Int) => [eI cell_here, eI k, eI rest, eI turn, .gone]) (eg_f (x_fdivP 1000000000 (by decide) (x_v eI s1_ rfl) (x_pow 10 9 1000000000 (by decide)))) (fun _ => rfl) (fun (rest : Int) => (b_nil (t := rest) ⟨rfl, rfl⟩)))) (fun (s1_ : Int) => (b_ret (k := fun u2_ => u2_) (eg_f (x_modP 1000000000 (by decide) (x_v eI s1_ rfl) (x_pow 10 9 1000000000 (by decide)))) (fun u2_ => ⟨rfl, ⟨.inl rfl, rfl⟩⟩)))))) (b_asg (fun (number : Int) => [eI cell_here, eI k, .gone, .gone, eI number]) (eg_f (x_m2 o2_addI (x_modP 2147483647 (by decide) (x_v eI cell_here rfl) (x_k eI (2147483647) rfl)) (x_k eI (7919) rfl))) (fun _ => rfl) (fun (number : Int) => (b_for (fun (s4_ : Int) => [eI cell_here, eI k, .gone, .gone, eI s4_]) number (fun (s4_ : Int) (turn : Int) => [eI cell_here, eI k, .gone, eI turn, eI s4_]) (ei_rng1 (x_m2 o2_addI (x_v eI k rfl) (x_k eI (2) rfl))) rfl (fun _ _ => rfl) (fun (s4_ : Int) (turn : Int) => (b_asg (fun (number : Int) => [eI cell_here, eI k, .gone, eI turn, eI number]) (eg_f (x_modP 2147483629 (by decide) (x_m2 o2_addI (x_mulR 48271 (by decide) (x_v eI s4_ rfl)) (x_k eI (104729) rfl)) (x_k eI (2147483629) rfl))) (fun _ => rfl) (fun (number : Int) => (b_nil (t := number) ⟨rfl, rfl⟩)))) (fun (s4_ : Int) => (b_retI (eg_f (x_fdivP 11 (by decide) (x_modP 998244353 (by decide) (x_m2 o2_mul (x_v eI s4_ rfl) (x_v eI s4_ rfl)) (x_k eI (998244353) rfl)) (x_k eI (11) rfl))) (fun u7_ => ⟨.inl rfl, rfl⟩)))))))
  refine run_T (n := 5) (kp := [true, true]) (m := m_lw_mix) (ds := [eI cell_here, eI k]) rfl hb ?_
  first
    | (simp -implicitDefEqProofs only [t_lw_mix, Option.bind_assoc, Option.bind_some, bind_same] at h ⊢; exact h)
    | (simp -implicitDefEqProofs only [t_lw_mix, Option.bind_assoc, Option.bind_some, bind_same] at h; exact h)
    | exact h
    | (simp [t_lw_mix] at h ⊢; exact h)
theorem T_lw_mix : Tf (τ := Int × Int × Unit) (fun t => [eI t.1, eI t.2.1]) eI F_lw_mix (fun t => t_lw_mix t.1 t.2.1) := fun t r h => ⟨_, L_lw_mix t.1 t.2.1 h⟩
theorem L_lw_signs   {r : Ts} (h : t_lw_signs  = some r) : F_lw_signs [] = some (eS r, (fun _ => []) r) := by
  have hb : Bk (Qf eS [] (fun _ => [])) m_lw_signs [.gone] _ := (b_asg (fun (some_ : Ts) => [eS some_]) (eg_f (x_k eS [' ', '!', '"', '#', '$', '&', '\'', '(', ')', '*', '+', ',', '-', '.', '/', '0', '1', '2', '3', '4', '5', '6', '7', '8', '9', ':', ';', '<', '=', '>', '?', '@', 'A', 'B', 'C', 'D', 'E', 'F', 'G', 'H', 'I', 'J', 'K', 'L', 'M', 'N', 'O', 'P', 'Q', 'R', 'S', 'T', 'U', 'V', 'W', 'X', 'Y', 'Z'] rfl)) (fun _ => rfl) (fun (some_ : Ts) => (b_retI (eg_f (x_m2 o2_catS (x_v eS some_ rfl) (x_k eS ['[', '\\', ']', '^', '_', '`', 'a', 'b', 'c', 'd', 'e', 'f', 'g', 'h', 'i', 'j', 'k', 'l', 'm', 'n', 'o', 'p', 'q', 'r', 's', 't', 'u', 'v', 'w', 'x', 'y', 'z', '{', '|', '}'] rfl))) (fun u1_ => ⟨.inl rfl, rfl⟩))))
  refine run_T (n := 1) (kp := []) (m := m_lw_signs) (ds := []) rfl hb ?_
  first
    | (simp -implicitDefEqProofs only [t_lw_signs, Option.bind_assoc, Option.bind_some, bind_same] at h ⊢; exact h)
    | (simp -implicitDefEqProofs only [t_lw_signs, Option.bind_assoc, Option.bind_some, bind_same] at h; exact h)
    | exact h
    | (simp [t_lw_signs] at h ⊢; exact h)
theorem T_lw_signs : Tf (τ := Unit) (fun t => []) eS F_lw_signs (fun t => t_lw_signs ) := fun t r h => ⟨_, L_lw_signs  h⟩
theorem L_lw_item  (text : Ts) (at_ : Int) {r : ((Int × Ts × Ts) × Int)} (h : t_lw_item text at_ = some r) : F_lw_item [eS text, eI at_] = some ((e2 (e3 eI eS eS) eI) r, (fun _ => [eS text, eI at_]) r) := by
  have hb : Bk (Qf (e2 (e3 eI eS eS) eI) [true, true] (fun _ => [eS text, eI at_])) m_lw_item [eS text, eI at_, .gone, .gone] _ := (b_asg (fun (colours : Ts) => [eS text, eI at_, eS colours, .gone]) (eg_f (x_k eS ['a', 'b', 'c', 'd', 'e', 'f', 'g', 'h', '.'] rfl)) (fun _ => rfl) (fun (colours : Ts) => (b_asg (fun (here : Ts) => [eS text, eI at_, eS colours, eS here]) (eg_f (x_sl (x_v eS text rfl) (eo_so (x_v eI at_ rfl)) (eo_so (x_m2 o2_addI (x_v eI at_ rfl) (x_k eI (4) rfl))))) (fun _ => rfl) (fun (here : Ts) => (b_ifT (et_b (x_m2 (o2_eq (e' := eS) (by decide)) (x_m2 o2_ixS (x_v eS here rfl) (x_k eI (0) rfl)) (x_k eS ['\n'] rfl))) (b_ret (k := fun u2_ => u2_) (eg_f (x_tup (f := (e2 (e3 eI eS eS) eI)) (fun t : (Int × Ts × Ts) × Int × Unit => (t.1, t.2.1)) (ea_cons (x_tup (f := (e3 eI eS eS)) (fun t : Int × Ts × Ts × Unit => (t.1, t.2.1, t.2.2.1)) (ea_cons (x_v eI at_ rfl) (ea_cons (x_k eS ['e', 'n', 'd'] rfl) (ea_cons (x_k eS ([] : Ts) rfl) ea_nil))) (fun _ => rfl) (fun _ => (by decide : 3 ≤ LIM))) (ea_cons (x_k eI (1) rfl) ea_nil)) (fun _ => rfl) (fun _ => (by decide : 2 ≤ LIM)))) (fun u2_ => ⟨rfl, ⟨.inl rfl, rfl⟩⟩)) (b_ifT (et_b (x_m2 (o2_eq (e' := eS) (by decide)) (x_m2 o2_ixS (x_v eS here rfl) (x_k eI (0) rfl)) (x_k eS ['\t'] rfl))) (b_ret (k := fun u4_ => u4_) (eg_f (x_tup (f := (e2 (e3 eI eS eS) eI)) (fun t : (Int × Ts × Ts) × Int × Unit => (t.1, t.2.1)) (ea_cons (x_tup (f := (e3 eI eS eS)) (fun t : Int × Ts × Ts × Unit => (t.1, t.2.1, t.2.2.1)) (ea_cons (x_v eI at_ rfl) (ea_cons (x_k eS ['a', 'n', 'e', 'w'] rfl) (ea_cons (x_k eS ([] : Ts) rfl) ea_nil))) (fun _ => rfl) (fun _ => (by decide : 3 ≤ LIM))) (ea_cons (x_k eI (1) rfl) ea_nil)) (fun _ => rfl) (fun _ => (by decide : 2 ≤ LIM)))) (fun u4_ => ⟨rfl, ⟨.inl rfl, rfl⟩⟩)) (b_ifT (et_b (x_m2 (o2_eq (e' := eS) (by decide)) (x_sl (x_v eS here rfl) eo_no (eo_so (x_k eI (2) rfl))) (x_k eS ['[', ']'] rfl))) (b_ret (k := fun u6_ => u6_) (eg_f (x_tup (f := (e2 (e3 eI eS eS) eI)) (fun t : (Int × Ts × Ts) × Int × Unit => (t.1, t.2.1)) (ea_cons (x_tup (f := (e3 eI eS eS)) (fun t : Int × Ts × Ts × Unit => (t.1, t.2.1, t.2.2.1)) (ea_cons (x_v eI at_ rfl) (ea_cons (x_k eS ['p', 'l', 'a', 'i', 'n'] rfl) (ea_cons (x_k eS ([] : Ts) rfl) ea_nil))) (fun _ => rfl) (fun _ => (by decide : 3 ≤ LIM))) (ea_cons (x_k eI (2) rfl) ea_nil)) (fun _ => rfl) (fun _ => (by decide : 2 ≤ LIM)))) (fun u6_ => ⟨rfl, ⟨.inl rfl, rfl⟩⟩)) (b_ifT (et_b (x_m2 (o2_eq (e' := eS) (by decide)) (x_sl (x_v eS here rfl) eo_no (eo_so (x_k eI (2) rfl))) (x_k eS ['[', '['] rfl))) (b_ret (k := fun u8_ => u8_) (eg_f (x_tup (f := (e2 (e3 eI eS eS) eI)) (fun t : (Int × Ts × Ts) × Int × Unit => (t.1, t.2.1)) (ea_cons (x_tup (f := (e3 eI eS eS)) (fun t : Int × Ts × Ts × Unit => (t.1, t.2.1, t.2.2.1)) (ea_cons (x_v eI at_ rfl) (ea_cons (x_k eS ['s', 'i', 'g', 'n'] rfl) (ea_cons (x_k eS ['['] rfl) ea_nil))) (fun _ => rfl) (fun _ => (by decide : 3 ≤ LIM))) (ea_cons (x_k eI (2) rfl) ea_nil)) (fun _ => rfl) (fun _ => (by decide : 2 ≤ LIM)))) (fun u8_ => ⟨rfl, ⟨.inl rfl, rfl⟩⟩)) (b_ifT (et_and (et_b (x_m2 o2_gtI (x_a1 o1_lenS (x_v eS here rfl)) (x_k eI (2) rfl))) (et_and (et_b (x_m2 (o2_eq (e' := eS) (by decide)) (x_m2 o2_ixS (x_v eS here rfl) (x_k eI (0) rfl)) (x_k eS ['['] rfl))) (et_and (et_b (x_m2 o2_in (x_m2 o2_ixS (x_v eS here rfl) (x_k eI (1) rfl)) (x_v eS colours rfl))) (et_b (x_m2 (o2_eq (e' := eS) (by decide)) (x_m2 o2_ixS (x_v eS here rfl) (x_k eI (2) rfl)) (x_k eS [']'] rfl)))))) (b_retI (eg_f (x_tup (f := (e2 (e3 eI eS eS) eI)) (fun t : (Int × Ts × Ts) × Int × Unit => (t.1, t.2.1)) (ea_cons (x_tup (f := (e3 eI eS eS)) (fun t : Int × Ts × Ts × Unit => (t.1, t.2.1, t.2.2.1)) (ea_cons (x_v eI at_ rfl) (ea_cons (x_k eS ['i', 'n', 'k'] rfl) (ea_cons (x_m2 o2_ixS (x_v eS here rfl) (x_k eI (1) rfl)) ea_nil))) (fun _ => rfl) (fun _ => (by decide : 3 ≤ LIM))) (ea_cons (x_k eI (3) rfl) ea_nil)) (fun _ => rfl) (fun _ => (by decide : 2 ≤ LIM)))) (fun u18_ => ⟨rfl, ⟨.inl rfl, rfl⟩⟩)) (b_ifT (et_and (et_b (x_m2 (o2_eq (e' := eI) (by decide)) (x_a1 o1_lenS (x_v eS here rfl)) (x_k eI (4) rfl))) (et_and (et_b (x_m2 (o2_eq (e' := eS) (by decide)) (x_sl (x_v eS here rfl) eo_no (eo_so (x_k eI (2) rfl))) (x_k eS ['[', '/'] rfl))) (et_and (et_b (x_m2 o2_in (x_m2 o2_ixS (x_v eS here rfl) (x_k eI (2) rfl)) (x_v eS colours rfl))) (et_b (x_m2 (o2_eq (e' := eS) (by decide)) (x_m2 o2_ixS (x_v eS here rfl) (x_k eI (3) rfl)) (x_k eS [']'] rfl)))))) (b_retI (eg_f (x_tup (f := (e2 (e3 eI eS eS) eI)) (fun t : (Int × Ts × Ts) × Int × Unit => (t.1, t.2.1)) (ea_cons (x_tup (f := (e3 eI eS eS)) (fun t : Int × Ts × Ts × Unit => (t.1, t.2.1, t.2.2.1)) (ea_cons (x_v eI at_ rfl) (ea_cons (x_k eS ['g', 'r', 'o', 'u', 'n', 'd'] rfl) (ea_cons (x_m2 o2_ixS (x_v eS here rfl) (x_k eI (2) rfl)) ea_nil))) (fun _ => rfl) (fun _ => (by decide : 3 ≤ LIM))) (ea_cons (x_k eI (4) rfl) ea_nil)) (fun _ => rfl) (fun _ => (by decide : 2 ≤ LIM)))) (fun u28_ => ⟨rfl, ⟨.inl rfl, rfl⟩⟩)) (b_retI (eg_f (x_tup (f := (e2 (e3 eI eS eS) eI)) (fun t : (Int × Ts × Ts) × Int × Unit => (t.1, t.2.1)) (ea_cons (x_tup (f := (e3 eI eS eS)) (fun t : Int × Ts × Ts × Unit => (t.1, t.2.1, t.2.2.1)) (ea_cons (x_v eI at_ rfl) (ea_cons (x_k eS ['s', 'i', 'g', 'n'] rfl) (ea_cons (x_m2 o2_ixS (x_v eS here rfl) (x_k eI (0) rfl)) ea_nil))) (fun _ => rfl) (fun _ => (by decide : 3 ≤ LIM))) (ea_cons (x_k eI (1) rfl) ea_nil)) (fun _ => rfl) (fun _ => (by decide : 2 ≤ LIM)))) (fun u31_ => ⟨.inl rfl, rfl⟩))))))))))))
  refine run_T (n := 4) (kp := [true, true]) (m := m_lw_item) (ds := [eS text, eI at_]) rfl hb ?_
  first
    | (simp -implicitDefEqProofs only [t_lw_item, Option.bind_assoc, Option.bind_some, bind_same] at h ⊢; exact h)
    | (simp -implicitDefEqProofs only [t_lw_item, Option.bind_assoc, Option.bind_some, bind_same] at h; exact h)
    | exact h
    | (simp [t_lw_item] at h ⊢; exact h)
theorem T_lw_item : Tf (τ := Ts × Int × Unit) (fun t => [eS t.1, eI t.2.1]) (e2 (e3 eI eS eS) eI) F_lw_item (fun t => t_lw_item t.1 t.2.1) := fun t r h => ⟨_, L_lw_item t.1 t.2.1 h⟩
theorem L_lw_items  (text : Ts) {r : (List (Int × Ts × Ts))} (h : t_lw_items text = some r) : F_lw_items [eS text] = some ((eL true (e3 eI eS eS)) r, (fun _ => [eS text]) r) := by
  have hb : Bk (Qf (eL true (e3 eI eS eS)) [true] (fun _ => [eS text])) m_lw_items [eS text, .gone, .gone, .gone, .gone] _ := (b_asg (fun (items_here : (List (Int × Ts × Ts))) => [eS text, (eL true (e3 eI eS eS)) items_here, .gone, .gone, .gone]) (eg_f (x_lst (f := (eL true (e3 eI eS eS))) (fun t : Unit => ([] : (List (Int × Ts × Ts)))) ea_nil (fun _ => rfl) (fun _ => (by decide : 0 ≤ LIM)))) (fun _ => rfl) (fun (items_here : (List (Int × Ts × Ts))) => (b_asg (fun (at_ : Int) => [eS text, (eL true (e3 eI eS eS)) items_here, eI at_, .gone, .gone]) (eg_f (x_k eI (0) rfl)) (fun _ => rfl) (fun (at_ : Int) => (b_while (fun (s1_ : ((List (Int × Ts × Ts)) × Int)) => [eS text, (eL true (e3 eI eS eS)) s1_.1, eI s1_.2, .gone, .gone]) (items_here, at_) rfl (fun (s1_ : ((List (Int × Ts × Ts)) × Int)) => (et_b (x_m2 o2_ltI (x_v eI s1_.2 rfl) (x_a1 o1_lenS (x_v eS text rfl))))) (fun (s1_ : ((List (Int × Ts × Ts)) × Int)) => (b_asg (fun (u3_ : ((Int × Ts × Ts) × Int)) => [eS text, (eL true (e3 eI eS eS)) s1_.1, eI s1_.2, (e3 eI eS eS) u3_.1, eI u3_.2]) (eg_f (x_call T_lw_item (ea_cons (x_v eS text rfl) (ea_cons (x_v eI s1_.2 rfl) ea_nil)))) (fun _ => rfl) (fun (u3_ : ((Int × Ts × Ts) × Int)) => (b_expr (eg_app (a := (e3 eI eS eS)) (xs := s1_.1) (env := fun r_ => [eS text, (eL true (e3 eI eS eS)) r_, eI s1_.2, (e3 eI eS eS) u3_.1, eI u3_.2]) rfl (x_fr (x_v (e3 eI eS eS) u3_.1 rfl)) (fun _ => rfl)) (fun (u4_ : (List (Int × Ts × Ts))) => (b_asg (fun (at_ : Int) => [eS text, (eL true (e3 eI eS eS)) u4_, eI at_, (e3 eI eS eS) u3_.1, eI u3_.2]) (eg_f (x_m2 o2_addI (x_v eI s1_.2 rfl) (x_v eI u3_.2 rfl))) (fun _ => rfl) (fun (at_ : Int) => (b_nil (t := (u4_, at_)) ⟨rfl, rfl⟩)))))))) (fun (s1_ : ((List (Int × Ts × Ts)) × Int)) => (b_ret (k := fun u5_ => u5_) (eg_mv (eL true (e3 eI eS eS)) s1_.1 [eS text, .gone, eI s1_.2, .gone, .gone] rfl rfl) (fun u5_ => ⟨.inl rfl, rfl⟩))))))))
  refine run_T (n := 5) (kp := [true]) (m := m_lw_items) (ds := [eS text]) rfl hb ?_
  first
    | (simp -implicitDefEqProofs only [t_lw_items, Option.bind_assoc, Option.bind_some, bind_same] at h ⊢; exact h)
    | (simp -implicitDefEqProofs only [t_lw_items, Option.bind_assoc, Option.bind_some, bind_same] at h; exact h)
    | exact h
    | (simp [t_lw_items] at h ⊢; exact h)
theorem T_lw_items : Tf (τ := Ts × Unit) (fun t => [eS t.1]) (eL true (e3 eI eS eS)) F_lw_items (fun t => t_lw_items t.1) := fun t r h => ⟨_, L_lw_items t.1 h⟩
theorem L_lw_parts  (items_here : (List (Int × Ts × Ts))) (most : Int) {r : ((List ((List (Ts × Ts × Ts × Int)) × Ts)) × (List (Ts × Ts × Ts × Int)))} (h : t_lw_parts items_here most = some r) : F_lw_parts [(eL false (e3 eI eS eS)) items_here, eI most] = some ((e2 (eL false (e2 (eL false (e4 eS eS eS eI)) eS)) (eL false (e4 eS eS eS eI))) r, (fun _ => [(eL false (e3 eI eS eS)) items_here, eI most]) r) := by
  have hb : Bk (Qf (e2 (eL false (e2 (eL false (e4 eS eS eS eI)) eS)) (eL false (e4 eS eS eS eI))) [true, true] (fun _ => [(eL false (e3 eI eS eS)) items_here, eI most])) m_lw_parts [(eL false (e3 eI eS eS)) items_here, eI most, .gone, .gone, .gone, .gone, .gone, .gone, .gone] _ := (b_asg (fun (parts_here : (List ((List (Ts × Ts × Ts × Int)) × Ts))) => [(eL false (e3 eI eS eS)) items_here, eI most, (eL true (e2 (eL false (e4 eS eS eS eI)) eS)) parts_here, .gone, .gone, .gone, .gone, .gone, .gone]) (eg_f (x_lst (f := (eL true (e2 (eL false (e4 eS eS eS eI)) eS))) (fun t : Unit => ([] : (List ((List (Ts × Ts × Ts × Int)) × Ts)))) ea_nil (fun _ => rfl) (fun _ => (by decide : 0 ≤ LIM)))) (fun _ => rfl) (fun (parts_here : (List ((List (Ts × Ts × Ts × Int)) × Ts))) => (b_asg (fun (row : (List (Ts × Ts × Ts × Int))) => [(eL false (e3 eI eS eS)) items_here, eI most, (eL true (e2 (eL false (e4 eS eS eS eI)) eS)) parts_here, (eL false (e4 eS eS eS eI)) row, .gone, .gone, .gone, .gone, .gone]) (eg_f (x_cold (x_lst (f := (eL true (e4 eS eS eS eI))) (fun t : Unit => ([] : (List (Ts × Ts × Ts × Int)))) ea_nil (fun _ => rfl) (fun _ => (by decide : 0 ≤ LIM))))) (fun _ => rfl) (fun (row : (List (Ts × Ts × Ts × Int))) => (b_asg (fun (stale : Bool) => [(eL false (e3 eI eS eS)) items_here, eI most, (eL true (e2 (eL false (e4 eS eS eS eI)) eS)) parts_here, (eL false (e4 eS eS eS eI)) row, eB stale, .gone, .gone, .gone, .gone]) (eg_f (x_k eB false rfl)) (fun _ => rfl) (fun (stale : Bool) => (b_asg (fun (colours : (List Ts)) => [(eL false (e3 eI eS eS)) items_here, eI most, (eL true (e2 (eL false (e4 eS eS eS eI)) eS)) parts_here, (eL false (e4 eS eS eS eI)) row, eB stale, (eL true eS) colours, .gone, .gone, .gone]) (eg_f (x_lst (f := (eL true eS)) (fun t : Ts × Ts × Unit => ([t.1, t.2.1] : (List Ts))) (ea_cons (x_k eS ['.'] rfl) (ea_cons (x_k eS ['.'] rfl) ea_nil)) (fun _ => rfl) (fun _ => (by decide : 2 ≤ LIM)))) (fun _ => rfl) (fun (colours : (List Ts)) => (b_for (fun (s1_ : ((List ((List (Ts × Ts × Ts × Int)) × Ts)) × (List (Ts × Ts × Ts × Int)) × Bool × (List Ts))) => [(eL false (e3 eI eS eS)) items_here, eI most, (eL true (e2 (eL false (e4 eS eS eS eI)) eS)) s1_.1, (eL false (e4 eS eS eS eI)) s1_.2.1, eB s1_.2.2.1, (eL true eS) s1_.2.2.2, .gone, .gone, .gone]) (parts_here, row, stale, colours) (fun (s1_ : ((List ((List (Ts × Ts × Ts × Int)) × Ts)) × (List (Ts × Ts × Ts × Int)) × Bool × (List Ts))) (x2_ : (Int × Ts × Ts)) => [(eL false (e3 eI eS eS)) items_here, eI most, (eL true (e2 (eL false (e4 eS eS eS eI)) eS)) s1_.1, (eL false (e4 eS eS eS eI)) s1_.2.1, eB s1_.2.2.1, (eL true eS) s1_.2.2.2, eI x2_.1, eS x2_.2.1, eS x2_.2.2]) (ei_it (x_v (eL false (e3 eI eS eS)) items_here rfl)) rfl (fun _ _ => rfl) (fun (s1_ : ((List ((List (Ts × Ts × Ts × Int)) × Ts)) × (List (Ts × Ts × Ts × Int)) × Bool × (List Ts))) (x2_ : (Int × Ts × Ts)) => (b_join (fun (s3_ : ((List (Ts × Ts × Ts × Int)) × Bool)) => [(eL false (e3 eI eS eS)) items_here, eI most, (eL true (e2 (eL false (e4 eS eS eS eI)) eS)) s1_.1, (eL false (e4 eS eS eS eI)) s3_.1, eB s3_.2, (eL true eS) s1_.2.2.2, eI x2_.1, eS x2_.2.1, eS x2_.2.2]) (et_andT (et_tru (x_v eB s1_.2.2.1 rfl)) (et_andT (et_b (x_m2 (o2_ne (e' := eS) (by decide)) (x_v eS x2_.2.1 rfl) (x_k eS ['e', 'n', 'd'] rfl))) (et_b (x_m2 (o2_ne (e' := eS) (by decide)) (x_v eS x2_.2.1 rfl) (x_k eS ['a', 'n', 'e', 'w'] rfl))))) (b_asg (fun (row : (List (Ts × Ts × Ts × Int))) => [(eL false (e3 eI eS eS)) items_here, eI most, (eL true (e2 (eL false (e4 eS eS eS eI)) eS)) s1_.1, (eL false (e4 eS eS eS eI)) row, eB s1_.2.2.1, (eL true eS) s1_.2.2.2, eI x2_.1, eS x2_.2.1, eS x2_.2.2]) (eg_f (x_cold (x_lst (f := (eL true (e4 eS eS eS eI))) (fun t : Unit => ([] : (List (Ts × Ts × Ts × Int)))) ea_nil (fun _ => rfl) (fun _ => (by decide : 0 ≤ LIM))))) (fun _ => rfl) (fun (row : (List (Ts × Ts × Ts × Int))) => (b_asg (fun (stale : Bool) => [(eL false (e3 eI eS eS)) items_here, eI most, (eL true (e2 (eL false (e4 eS eS eS eI)) eS)) s1_.1, (eL false (e4 eS eS eS eI)) row, eB stale, (eL true eS) s1_.2.2.2, eI x2_.1, eS x2_.2.1, eS x2_.2.2]) (eg_f (x_k eB false rfl)) (fun _ => rfl) (fun (stale : Bool) => (b_nil (t := (row, stale)) ⟨rfl, rfl⟩))))) (b_nil (t := (s1_.2.1, s1_.2.2.1)) ⟨rfl, rfl⟩) (fun (s3_ : ((List (Ts × Ts × Ts × Int)) × Bool)) => (b_join (fun (s4_ : ((List ((List (Ts × Ts × Ts × Int)) × Ts)) × (List (Ts × Ts × Ts × Int)) × (List Ts))) => [(eL false (e3 eI eS eS)) items_here, eI most, (eL true (e2 (eL false (e4 eS eS eS eI)) eS)) s4_.1, (eL false (e4 eS eS eS eI)) s4_.2.1, eB s3_.2, (eL true eS) s4_.2.2, eI x2_.1, eS x2_.2.1, eS x2_.2.2]) (et_b (x_m2 (o2_eq (e' := eS) (by decide)) (x_v eS x2_.2.1 rfl) (x_k eS ['s', 'i', 'g', 'n'] rfl))) (b_join (fun (s5_ : ((List ((List (Ts × Ts × Ts × Int)) × Ts)) × (List (Ts × Ts × Ts × Int)))) => [(eL false (e3 eI eS eS)) items_here, eI most, (eL true (e2 (eL false (e4 eS eS eS eI)) eS)) s5_.1, (eL false (e4 eS eS eS eI)) s5_.2, eB s3_.2, (eL true eS) s1_.2.2.2, eI x2_.1, eS x2_.2.1, eS x2_.2.2]) (et_b (x_m2 (o2_eq (e' := eI) (by decide)) (x_a1 o1_lenL (x_v (eL false (e4 eS eS eS eI)) s3_.1 rfl)) (x_v eI most rfl))) (b_expr (eg_app (a := (e2 (eL false (e4 eS eS eS eI)) eS)) (xs := s1_.1) (env := fun r_ => [(eL false (e3 eI eS eS)) items_here, eI most, (eL true (e2 (eL false (e4 eS eS eS eI)) eS)) r_, (eL false (e4 eS eS eS eI)) s3_.1, eB s3_.2, (eL true eS) s1_.2.2.2, eI x2_.1, eS x2_.2.1, eS x2_.2.2]) rfl (x_tup (f := (e2 (eL false (e4 eS eS eS eI)) eS)) (fun t : (List (Ts × Ts × Ts × Int)) × Ts × Unit => (t.1, t.2.1)) (ea_cons (x_v (eL false (e4 eS eS eS eI)) s3_.1 rfl) (ea_cons (x_k eS ['m', 'o', 'r', 'e'] rfl) ea_nil)) (fun _ => rfl) (fun _ => (by decide : 2 ≤ LIM))) (fun _ => rfl)) (fun (u6_ : (List ((List (Ts × Ts × Ts × Int)) × Ts))) => (b_asg (fun (row : (List (Ts × Ts × Ts × Int))) => [(eL false (e3 eI eS eS)) items_here, eI most, (eL true (e2 (eL false (e4 eS eS eS eI)) eS)) u6_, (eL false (e4 eS eS eS eI)) row, eB s3_.2, (eL true eS) s1_.2.2.2, eI x2_.1, eS x2_.2.1, eS x2_.2.2]) (eg_f (x_cold (x_lst (f := (eL true (e4 eS eS eS eI))) (fun t : Unit => ([] : (List (Ts × Ts × Ts × Int)))) ea_nil (fun _ => rfl) (fun _ => (by decide : 0 ≤ LIM))))) (fun _ => rfl) (fun (row : (List (Ts × Ts × Ts × Int))) => (b_nil (t := (u6_, row)) ⟨rfl, rfl⟩))))) (b_nil (t := (s1_.1, s3_.1)) ⟨rfl, rfl⟩) (fun (s5_ : ((List ((List (Ts × Ts × Ts × Int)) × Ts)) × (List (Ts × Ts × Ts × Int)))) => (b_asg (fun (row : (List (Ts × Ts × Ts × Int))) => [(eL false (e3 eI eS eS)) items_here, eI most, (eL true (e2 (eL false (e4 eS eS eS eI)) eS)) s5_.1, (eL false (e4 eS eS eS eI)) row, eB s3_.2, (eL true eS) s1_.2.2.2, eI x2_.1, eS x2_.2.1, eS x2_.2.2]) (eg_f (x_cold (x_m2 o2_catL (x_v (eL false (e4 eS eS eS eI)) s5_.2 rfl) (x_lst (f := (eL true (e4 eS eS eS eI))) (fun t : (Ts × Ts × Ts × Int) × Unit => ([t.1] : (List (Ts × Ts × Ts × Int)))) (ea_cons (x_tup (f := (e4 eS eS eS eI)) (fun t : Ts × Ts × Ts × Int × Unit => (t.1, t.2.1, t.2.2.1, t.2.2.2.1)) (ea_cons (x_v eS x2_.2.2 rfl) (ea_cons (x_m2 o2_ixL (x_v (eL true eS) s1_.2.2.2 rfl) (x_k eI (0) rfl)) (ea_cons (x_m2 o2_ixL (x_v (eL true eS) s1_.2.2.2 rfl) (x_k eI (1) rfl)) (ea_cons (x_v eI x2_.1 rfl) ea_nil)))) (fun _ => rfl) (fun _ => (by decide : 4 ≤ LIM))) ea_nil) (fun _ => rfl) (fun _ => (by decide : 1 ≤ LIM)))))) (fun _ => rfl) (fun (row : (List (Ts × Ts × Ts × Int))) => (b_nil (t := (s5_.1, row, s1_.2.2.2)) ⟨rfl, rfl⟩))))) (b_join (fun (s11_ : (List Ts)) => [(eL false (e3 eI eS eS)) items_here, eI most, (eL true (e2 (eL false (e4 eS eS eS eI)) eS)) s1_.1, (eL false (e4 eS eS eS eI)) s3_.1, eB s3_.2, (eL true eS) s11_, eI x2_.1, eS x2_.2.1, eS x2_.2.2]) (et_b (x_m2 (o2_eq (e' := eS) (by decide)) (x_v eS x2_.2.1 rfl) (x_k eS ['i', 'n', 'k'] rfl))) (b_store (a := eS) (v := fun u12_ => u12_) (xs := fun u12_ => s1_.2.2.2) (fun p14_ => [(eL false (e3 eI eS eS)) items_here, eI most, (eL true (e2 (eL false (e4 eS eS eS eI)) eS)) s1_.1, (eL false (e4 eS eS eS eI)) s3_.1, eB s3_.2, (eL true eS) p14_.2, eI x2_.1, eS x2_.2.1, eS x2_.2.2]) (eg_r (x_v eS x2_.2.2 rfl)) (fun _ => rfl) (fun _ => rfl) (fun u12_ => (x_k eI (0) rfl)) (fun _ => rfl) (fun p14_ => (b_nil (t := p14_.2) ⟨rfl, rfl⟩))) (b_join (fun (s16_ : (List Ts)) => [(eL false (e3 eI eS eS)) items_here, eI most, (eL true (e2 (eL false (e4 eS eS eS eI)) eS)) s1_.1, (eL false (e4 eS eS eS eI)) s3_.1, eB s3_.2, (eL true eS) s16_, eI x2_.1, eS x2_.2.1, eS x2_.2.2]) (et_b (x_m2 (o2_eq (e' := eS) (by decide)) (x_v eS x2_.2.1 rfl) (x_k eS ['g', 'r', 'o', 'u', 'n', 'd'] rfl))) (b_store (a := eS) (v := fun u17_ => u17_) (xs := fun u17_ => s1_.2.2.2) (fun p19_ => [(eL false (e3 eI eS eS)) items_here, eI most, (eL true (e2 (eL false (e4 eS eS eS eI)) eS)) s1_.1, (eL false (e4 eS eS eS eI)) s3_.1, eB s3_.2, (eL true eS) p19_.2, eI x2_.1, eS x2_.2.1, eS x2_.2.2]) (eg_r (x_v eS x2_.2.2 rfl)) (fun _ => rfl) (fun _ => rfl) (fun u17_ => (x_k eI (1) rfl)) (fun _ => rfl) (fun p19_ => (b_nil (t := p19_.2) ⟨rfl, rfl⟩))) (b_asg (fun (colours : (List Ts)) => [(eL false (e3 eI eS eS)) items_here, eI most, (eL true (e2 (eL false (e4 eS eS eS eI)) eS)) s1_.1, (eL false (e4 eS eS eS eI)) s3_.1, eB s3_.2, (eL true eS) colours, eI x2_.1, eS x2_.2.1, eS x2_.2.2]) (eg_f (x_lst (f := (eL true eS)) (fun t : Ts × Ts × Unit => ([t.1, t.2.1] : (List Ts))) (ea_cons (x_k eS ['.'] rfl) (ea_cons (x_k eS ['.'] rfl) ea_nil)) (fun _ => rfl) (fun _ => (by decide : 2 ≤ LIM)))) (fun _ => rfl) (fun (colours : (List Ts)) => (b_nil (t := colours) ⟨rfl, rfl⟩))) (fun (s16_ : (List Ts)) => (b_nil (t := s16_) ⟨rfl, rfl⟩))) (fun (s11_ : (List Ts)) => (b_nil (t := (s1_.1, s3_.1, s11_)) ⟨rfl, rfl⟩))) (fun (s4_ : ((List ((List (Ts × Ts × Ts × Int)) × Ts)) × (List (Ts × Ts × Ts × Int)) × (List Ts))) => (b_join (fun (s21_ : Bool) => [(eL false (e3 eI eS eS)) items_here, eI most, (eL true (e2 (eL false (e4 eS eS eS eI)) eS)) s4_.1, (eL false (e4 eS eS eS eI)) s4_.2.1, eB s21_, (eL true eS) s4_.2.2, eI x2_.1, eS x2_.2.1, eS x2_.2.2]) (et_b (x_m2 (o2_eq (e' := eS) (by decide)) (x_v eS x2_.2.1 rfl) (x_k eS ['a', 'n', 'e', 'w'] rfl))) (b_asg (fun (stale : Bool) => [(eL false (e3 eI eS eS)) items_here, eI most, (eL true (e2 (eL false (e4 eS eS eS eI)) eS)) s4_.1, (eL false (e4 eS eS eS eI)) s4_.2.1, eB stale, (eL true eS) s4_.2.2, eI x2_.1, eS x2_.2.1, eS x2_.2.2]) (eg_f (x_k eB true rfl)) (fun _ => rfl) (fun (stale : Bool) => (b_nil (t := stale) ⟨rfl, rfl⟩))) (b_nil (t := s3_.2) ⟨rfl, rfl⟩) (fun (s21_ : Bool) => (b_join (fun (s22_ : ((List ((List (Ts × Ts × Ts × Int)) × Ts)) × (List (Ts × Ts × Ts × Int)) × Bool)) => [(eL false (e3 eI eS eS)) items_here, eI most, (eL true (e2 (eL false (e4 eS eS eS eI)) eS)) s22_.1, (eL false (e4 eS eS eS eI)) s22_.2.1, eB s22_.2.2, (eL true eS) s4_.2.2, eI x2_.1, eS x2_.2.1, eS x2_.2.2]) (et_b (x_m2 (o2_eq (e' := eS) (by decide)) (x_v eS x2_.2.1 rfl) (x_k eS ['e', 'n', 'd'] rfl))) (b_expr (eg_app (a := (e2 (eL false (e4 eS eS eS eI)) eS)) (xs := s4_.1) (env := fun r_ => [(eL false (e3 eI eS eS)) items_here, eI most, (eL true (e2 (eL false (e4 eS eS eS eI)) eS)) r_, (eL false (e4 eS eS eS eI)) s4_.2.1, eB s21_, (eL true eS) s4_.2.2, eI x2_.1, eS x2_.2.1, eS x2_.2.2]) rfl (x_tup (f := (e2 (eL false (e4 eS eS eS eI)) eS)) (fun t : (List (Ts × Ts × Ts × Int)) × Ts × Unit => (t.1, t.2.1)) (ea_cons (x_v (eL false (e4 eS eS eS eI)) s4_.2.1 rfl) (ea_cons (x_k eS ['w', 'h', 'o', 'l', 'e'] rfl) ea_nil)) (fun _ => rfl) (fun _ => (by decide : 2 ≤ LIM))) (fun _ => rfl)) (fun (u23_ : (List ((List (Ts × Ts × Ts × Int)) × Ts))) => (b_asg (fun (row : (List (Ts × Ts × Ts × Int))) => [(eL false (e3 eI eS eS)) items_here, eI most, (eL true (e2 (eL false (e4 eS eS eS eI)) eS)) u23_, (eL false (e4 eS eS eS eI)) row, eB s21_, (eL true eS) s4_.2.2, eI x2_.1, eS x2_.2.1, eS x2_.2.2]) (eg_f (x_cold (x_lst (f := (eL true (e4 eS eS eS eI))) (fun t : Unit => ([] : (List (Ts × Ts × Ts × Int)))) ea_nil (fun _ => rfl) (fun _ => (by decide : 0 ≤ LIM))))) (fun _ => rfl) (fun (row : (List (Ts × Ts × Ts × Int))) => (b_asg (fun (stale : Bool) => [(eL false (e3 eI eS eS)) items_here, eI most, (eL true (e2 (eL false (e4 eS eS eS eI)) eS)) u23_, (eL false (e4 eS eS eS eI)) row, eB stale, (eL true eS) s4_.2.2, eI x2_.1, eS x2_.2.1, eS x2_.2.2]) (eg_f (x_k eB false rfl)) (fun _ => rfl) (fun (stale : Bool) => (b_nil (t := (u23_, row, stale)) ⟨rfl, rfl⟩))))))) (b_nil (t := (s4_.1, s4_.2.1, s21_)) ⟨rfl, rfl⟩) (fun (s22_ : ((List ((List (Ts × Ts × Ts × Int)) × Ts)) × (List (Ts × Ts × Ts × Int)) × Bool)) => (b_nil (t := (s22_.1, s22_.2.1, s22_.2.2, s4_.2.2)) ⟨rfl, rfl⟩)))))))))) (fun (s1_ : ((List ((List (Ts × Ts × Ts × Int)) × Ts)) × (List (Ts × Ts × Ts × Int)) × Bool × (List Ts))) => (b_frz (ρ2 := [(eL false (e3 eI eS eS)) items_here, eI most, (eL false (e2 (eL false (e4 eS eS eS eI)) eS)) s1_.1, (eL false (e4 eS eS eS eI)) s1_.2.1, eB s1_.2.2.1, (eL true eS) s1_.2.2.2, .gone, .gone, .gone]) (e := (eL true (e2 (eL false (e4 eS eS eS eI)) eS))) (x := s1_.1) rfl rfl (b_ret (k := fun u24_ => u24_) (eg_f (x_tup (f := (e2 (eL false (e2 (eL false (e4 eS eS eS eI)) eS)) (eL false (e4 eS eS eS eI)))) (fun t : (List ((List (Ts × Ts × Ts × Int)) × Ts)) × (List (Ts × Ts × Ts × Int)) × Unit => (t.1, t.2.1)) (ea_cons (x_v (eL false (e2 (eL false (e4 eS eS eS eI)) eS)) s1_.1 rfl) (ea_cons (x_v (eL false (e4 eS eS eS eI)) s1_.2.1 rfl) ea_nil)) (fun _ => rfl) (fun _ => (by decide : 2 ≤ LIM)))) (fun u24_ => ⟨.inl rfl, rfl⟩)))))))))))))
  refine run_T (n := 9) (kp := [true, true]) (m := m_lw_parts) (ds := [(eL false (e3 eI eS eS)) items_here, eI most]) rfl hb ?_
  first
    | (simp -implicitDefEqProofs only [t_lw_parts, Option.bind_assoc, Option.bind_some, bind_same] at h ⊢; exact h)
    | (simp -implicitDefEqProofs only [t_lw_parts, Option.bind_assoc, Option.bind_some, bind_same] at h; exact h)
    | exact h
    | (simp [t_lw_parts] at h ⊢; exact h)
theorem T_lw_parts : Tf (τ := (List (Int × Ts × Ts)) × Int × Unit) (fun t => [(eL false (e3 eI eS eS)) t.1, eI t.2.1]) (e2 (eL false (e2 (eL false (e4 eS eS eS eI)) eS)) (eL false (e4 eS eS eS eI))) F_lw_parts (fun t => t_lw_parts t.1 t.2.1) := fun t r h => ⟨_, L_lw_parts t.1 t.2.1 h⟩
theorem L_lw_whole  (found : Int) {r : Bool} (h : t_lw_whole found = some r) : F_lw_whole [eI found] = some (eB r, (fun _ => [eI found]) r) := by
  have hb : Bk (Qf eB [true] (fun _ => [eI found])) m_lw_whole [eI found] _ := (b_ret (k := fun u1_ => u1_) (eg_f (x_andT (x_isK kit_int_int (x_v eI found rfl)) (x_not (x_isK kit_int_bool (x_v eI found rfl))))) (fun u1_ => ⟨.inl rfl, rfl⟩))
  refine run_T (n := 1) (kp := [true]) (m := m_lw_whole) (ds := [eI found]) rfl hb ?_
  first
    | (simp -implicitDefEqProofs only [t_lw_whole, Option.bind_assoc, Option.bind_some, bind_same] at h ⊢; exact h)
    | (simp -implicitDefEqProofs only [t_lw_whole, Option.bind_assoc, Option.bind_some, bind_same] at h; exact h)
    | exact h
    | (simp [t_lw_whole] at h ⊢; exact h)
theorem T_lw_whole : Tf (τ := Int × Unit) (fun t => [eI t.1]) eB F_lw_whole (fun t => t_lw_whole t.1) := fun t r h => ⟨_, L_lw_whole t.1 h⟩
theorem L_lw_letters_right  (found : (List (Ts × Ts × Ts × Int))) (due : (List (Ts × Ts × Ts × Int))) {r : Bool} (h : t_lw_letters_right found due = some r) : F_lw_letters_right [(eL false (e4 eS eS eS eI)) found, (eL false (e4 eS eS eS eI)) due] = some (eB r, (fun _ => [(eL false (e4 eS eS eS eI)) found, (eL false (e4 eS eS eS eI)) due]) r) := by
  have hb : Bk (Qf eB [true, true] (fun _ => [(eL false (e4 eS eS eS eI)) found, (eL false (e4 eS eS eS eI)) due])) m_lw_letters_right [(eL false (e4 eS eS eS eI)) found, (eL false (e4 eS eS eS eI)) due, .gone, .gone] _ := (b_ifT (et_orT (et_not (et_tru (x_isK kit_list_list (x_v (eL false (e4 eS eS eS eI)) found rfl)))) (et_b (x_m2 (o2_ne (e' := eI) (by decide)) (x_a1 o1_lenL (x_v (eL false (e4 eS eS eS eI)) found rfl)) (x_a1 o1_lenL (x_v (eL false (e4 eS eS eS eI)) due rfl))))) (b_ret (k := fun u1_ => u1_) (eg_f (x_k eB false rfl)) (fun u1_ => ⟨rfl, ⟨.inl rfl, rfl⟩⟩)) (b_forR (fun (s2_ : Unit) => [(eL false (e4 eS eS eS eI)) found, (eL false (e4 eS eS eS eI)) due, .gone, .gone]) () (fun (s2_ : Unit) (letter : (Ts × Ts × Ts × Int)) => [(eL false (e4 eS eS eS eI)) found, (eL false (e4 eS eS eS eI)) due, (e4 eS eS eS eI) letter, .gone]) (ei_it (x_v (eL false (e4 eS eS eS eI)) found rfl)) rfl (fun _ _ => rfl) (fun (s2_ : Unit) (letter : (Ts × Ts × Ts × Int)) => (b_ifT (et_or (et_not (et_tru (x_isK kit_tuple_tuple (x_v (e4 eS eS eS eI) letter rfl)))) (et_or (et_b (x_m2 (o2_ne (e' := eI) (by decide)) (x_a1 (o1_lenK (n := 4) (fun _ => rfl)) (x_v (e4 eS eS eS eI) letter rfl)) (x_k eI (4) rfl))) (et_not (et_tru (x_call T_lw_whole (ea_cons (x_pr (f := eI) 3 (fun t : (Ts × Ts × Ts × Int) => t.2.2.2) (fun _ => rfl) (x_v (e4 eS eS eS eI) letter rfl)) ea_nil)))))) (b_ret (k := fun u4_ => (.rt u4_ : (St Unit Bool))) (eg_f (x_k eB false rfl)) (fun u4_ => ⟨rfl, ⟨rfl, ⟨.inl rfl, rfl⟩⟩⟩)) (b_ifT (et_b (x_m2 (o2_ne (e' := (eL false eB)) (by decide)) (x_comp (fun (thing : Ts) => [(eL false (e4 eS eS eS eI)) found, (eL false (e4 eS eS eS eI)) due, (e4 eS eS eS eI) letter, eS thing]) (ei_itV (x_map (e := (e3 eS eS eS)) (f := (eV eS)) (fun t : (Ts × Ts × Ts) => ([t.1, t.2.1, t.2.2] : (List Ts))) (fun _ => rfl) (x_slK (f := (e3 eS eS eS)) none (some (3)) (fun t : (Ts × Ts × Ts × Int) => (t.1, t.2.1, t.2.2.1)) (fun _ => rfl) (fun _ => rfl) (x_v (e4 eS eS eS eI) letter rfl) rfl rfl))) (fun _ => rfl) (fun (thing : Ts) => et_yes) (fun (thing : Ts) => (x_isK kit_str_str (x_v eS thing rfl)))) (x_lst (f := (eL true eB)) (fun t : Bool × Bool × Bool × Unit => ([t.1, t.2.1, t.2.2.1] : (List Bool))) (ea_cons (x_k eB true rfl) (ea_cons (x_k eB true rfl) (ea_cons (x_k eB true rfl) ea_nil))) (fun _ => rfl) (fun _ => (by decide : 3 ≤ LIM))))) (b_ret (k := fun u7_ => (.rt u7_ : (St Unit Bool))) (eg_f (x_k eB false rfl)) (fun u7_ => ⟨rfl, ⟨rfl, ⟨.inl rfl, rfl⟩⟩⟩)) (b_nil (t := (.nx () : (St Unit Bool))) ⟨rfl, rfl⟩)))) (fun (s2_ : Unit) => (b_ret (k := fun u10_ => u10_) (eg_f (x_m2 (o2_eq (e' := (eL false (e4 eS eS eS eI))) (by decide)) (x_v (eL false (e4 eS eS eS eI)) found rfl) (x_v (eL false (e4 eS eS eS eI)) due rfl))) (fun u10_ => ⟨.inl rfl, rfl⟩)))))
  refine run_T (n := 4) (kp := [true, true]) (m := m_lw_letters_right) (ds := [(eL false (e4 eS eS eS eI)) found, (eL false (e4 eS eS eS eI)) due]) rfl hb ?_
  first
    | (simp -implicitDefEqProofs only [t_lw_letters_right, Option.bind_assoc, Option.bind_some, bind_same] at h ⊢; exact h)
    | (simp -implicitDefEqProofs only [t_lw_letters_right, Option.bind_assoc, Option.bind_some, bind_same] at h; exact h)
    | exact h
    | (simp [t_lw_letters_right] at h ⊢; exact h)
theorem T_lw_letters_right : Tf (τ := (List (Ts × Ts × Ts × Int)) × (List (Ts × Ts × Ts × Int)) × Unit) (fun t => [(eL false (e4 eS eS eS eI)) t.1, (eL false (e4 eS eS eS eI)) t.2.1]) eB F_lw_letters_right (fun t => t_lw_letters_right t.1 t.2.1) := fun t r h => ⟨_, L_lw_letters_right t.1 t.2.1 h⟩
theorem L_lw_parts_right  (found : (List ((List (Ts × Ts × Ts × Int)) × Ts))) (due : (List ((List (Ts × Ts × Ts × Int)) × Ts))) {r : Bool} (h : t_lw_parts_right found due = some r) : F_lw_parts_right [(eL false (e2 (eL false (e4 eS eS eS eI)) eS)) found, (eL false (e2 (eL false (e4 eS eS eS eI)) eS)) due] = some (eB r, (fun _ => [(eL false (e2 (eL false (e4 eS eS eS eI)) eS)) found, (eL false (e2 (eL false (e4 eS eS eS eI)) eS)) due]) r) := by
  have hb : Bk (Qf eB [true, true] (fun _ => [(eL false (e2 (eL false (e4 eS eS eS eI)) eS)) found, (eL false (e2 (eL false (e4 eS eS eS eI)) eS)) due])) m_lw_parts_right [(eL false (e2 (eL false (e4 eS eS eS eI)) eS)) found, (eL false (e2 (eL false (e4 eS eS eS eI)) eS)) due, .gone, .gone] _ := (b_ifT (et_orT (et_not (et_tru (x_isK kit_list_list (x_v (eL false (e2 (eL false (e4 eS eS eS eI)) eS)) found rfl)))) (et_b (x_m2 (o2_ne (e' := eI) (by decide)) (x_a1 o1_lenL (x_v (eL false (e2 (eL false (e4 eS eS eS eI)) eS)) found rfl)) (x_a1 o1_lenL (x_v (eL false (e2 (eL false (e4 eS eS eS eI)) eS)) due rfl))))) (b_ret (k := fun u1_ => u1_) (eg_f (x_k eB false rfl)) (fun u1_ => ⟨rfl, ⟨.inl rfl, rfl⟩⟩)) (b_forR (fun (s2_ : Unit) => [(eL false (e2 (eL false (e4 eS eS eS eI)) eS)) found, (eL false (e2 (eL false (e4 eS eS eS eI)) eS)) due, .gone, .gone]) () (fun (s2_ : Unit) (x3_ : (((List (Ts × Ts × Ts × Int)) × Ts) × ((List (Ts × Ts × Ts × Int)) × Ts))) => [(eL false (e2 (eL false (e4 eS eS eS eI)) eS)) found, (eL false (e2 (eL false (e4 eS eS eS eI)) eS)) due, (e2 (eL false (e4 eS eS eS eI)) eS) x3_.1, (e2 (eL false (e4 eS eS eS eI)) eS) x3_.2]) (ei_zip (x_v (eL false (e2 (eL false (e4 eS eS eS eI)) eS)) found rfl) (x_v (eL false (e2 (eL false (e4 eS eS eS eI)) eS)) due rfl)) rfl (fun _ _ => rfl) (fun (s2_ : Unit) (x3_ : (((List (Ts × Ts × Ts × Int)) × Ts) × ((List (Ts × Ts × Ts × Int)) × Ts))) => (b_ifT (et_orT (et_not (et_tru (x_isK kit_tuple_tuple (x_v (e2 (eL false (e4 eS eS eS eI)) eS) x3_.1 rfl)))) (et_orT (et_b (x_m2 (o2_ne (e' := eI) (by decide)) (x_a1 (o1_lenK (n := 2) (fun _ => rfl)) (x_v (e2 (eL false (e4 eS eS eS eI)) eS) x3_.1 rfl)) (x_k eI (2) rfl))) (et_b (x_m2 (o2_ne (e' := eS) (by decide)) (x_pr (f := eS) 1 (fun t : ((List (Ts × Ts × Ts × Int)) × Ts) => t.2) (fun _ => rfl) (x_v (e2 (eL false (e4 eS eS eS eI)) eS) x3_.1 rfl)) (x_pr (f := eS) 1 (fun t : ((List (Ts × Ts × Ts × Int)) × Ts) => t.2) (fun _ => rfl) (x_v (e2 (eL false (e4 eS eS eS eI)) eS) x3_.2 rfl)))))) (b_ret (k := fun u4_ => (.rt u4_ : (St Unit Bool))) (eg_f (x_k eB false rfl)) (fun u4_ => ⟨rfl, ⟨rfl, ⟨.inl rfl, rfl⟩⟩⟩)) (b_ifT (et_not (et_tru (x_call T_lw_letters_right (ea_cons (x_pr (f := (eL false (e4 eS eS eS eI))) 0 (fun t : ((List (Ts × Ts × Ts × Int)) × Ts) => t.1) (fun _ => rfl) (x_v (e2 (eL false (e4 eS eS eS eI)) eS) x3_.1 rfl)) (ea_cons (x_pr (f := (eL false (e4 eS eS eS eI))) 0 (fun t : ((List (Ts × Ts × Ts × Int)) × Ts) => t.1) (fun _ => rfl) (x_v (e2 (eL false (e4 eS eS eS eI)) eS) x3_.2 rfl)) ea_nil))))) (b_ret (k := fun u6_ => (.rt u6_ : (St Unit Bool))) (eg_f (x_k eB false rfl)) (fun u6_ => ⟨rfl, ⟨rfl, ⟨.inl rfl, rfl⟩⟩⟩)) (b_nil (t := (.nx () : (St Unit Bool))) ⟨rfl, rfl⟩)))) (fun (s2_ : Unit) => (b_ret (k := fun u8_ => u8_) (eg_f (x_k eB true rfl)) (fun u8_ => ⟨.inl rfl, rfl⟩)))))
  refine run_T (n := 4) (kp := [true, true]) (m := m_lw_parts_right) (ds := [(eL false (e2 (eL false (e4 eS eS eS eI)) eS)) found, (eL false (e2 (eL false (e4 eS eS eS eI)) eS)) due]) rfl hb ?_
  first
    | (simp -implicitDefEqProofs only [t_lw_parts_right, Option.bind_assoc, Option.bind_some, bind_same] at h ⊢; exact h)
    | (simp -implicitDefEqProofs only [t_lw_parts_right, Option.bind_assoc, Option.bind_some, bind_same] at h; exact h)
    | exact h
    | (simp [t_lw_parts_right] at h ⊢; exact h)
theorem T_lw_parts_right : Tf (τ := (List ((List (Ts × Ts × Ts × Int)) × Ts)) × (List ((List (Ts × Ts × Ts × Int)) × Ts)) × Unit) (fun t => [(eL false (e2 (eL false (e4 eS eS eS eI)) eS)) t.1, (eL false (e2 (eL false (e4 eS eS eS eI)) eS)) t.2.1]) eB F_lw_parts_right (fun t => t_lw_parts_right t.1 t.2.1) := fun t r h => ⟨_, L_lw_parts_right t.1 t.2.1 h⟩
theorem L_lw_piece  (cell_here : Int) (ends : Bool) {r : Ts} (h : t_lw_piece cell_here ends = some r) : F_lw_piece [eI cell_here, eB ends] = some (eS r, (fun _ => [eI cell_here, eB ends]) r) := by
  have hb : Bk (Qf eS [true, true] (fun _ => [eI cell_here, eB ends])) m_lw_piece [eI cell_here, eB ends, .gone, .gone] _ := (b_asg (fun (colour : Ts) => [eI cell_here, eB ends, eS colour, .gone]) (eg_r (x_m2 o2_ixS (x_k eS ['a', 'b', 'c', 'd', 'e', 'f', 'g', 'h', '.'] rfl) (x_modP 9 (by decide) (x_call T_lw_mix (ea_cons (x_v eI cell_here rfl) (ea_cons (x_k eI (1) rfl) ea_nil))) (x_k eI (9) rfl)))) (fun _ => rfl) (fun (colour : Ts) => (b_asg (fun (way : Int) => [eI cell_here, eB ends, eS colour, eI way]) (eg_f (x_modP 9 (by decide) (x_call T_lw_mix (ea_cons (x_v eI cell_here rfl) (ea_cons (x_k eI (0) rfl) ea_nil))) (x_k eI (9) rfl))) (fun _ => rfl) (fun (way : Int) => (b_ifT (et_b (x_m2 o2_ltI (x_v eI way rfl) (x_k eI (2) rfl))) (b_retI (eg_f (x_m2 o2_catS (x_m2 o2_catS (x_k eS ['['] rfl) (x_v eS colour rfl)) (x_k eS [']'] rfl))) (fun u5_ => ⟨rfl, ⟨.inl rfl, rfl⟩⟩)) (b_ifT (et_b (x_m2 o2_ltI (x_v eI way rfl) (x_k eI (4) rfl))) (b_retI (eg_f (x_m2 o2_catS (x_m2 o2_catS (x_k eS ['[', '/'] rfl) (x_v eS colour rfl)) (x_k eS [']'] rfl))) (fun u7_ => ⟨rfl, ⟨.inl rfl, rfl⟩⟩)) (b_ifT (et_b (x_m2 (o2_eq (e' := eI) (by decide)) (x_v eI way rfl) (x_k eI (4) rfl))) (b_retI (eg_r (x_m2 o2_ixL (x_lst (f := (eL true eS)) (fun t : Ts × Ts × Ts × Ts × Unit => ([t.1, t.2.1, t.2.2.1, t.2.2.2.1] : (List Ts))) (ea_cons (x_k eS ['[', ']'] rfl) (ea_cons (x_k eS ['[', '['] rfl) (ea_cons (x_m2 o2_catS (x_k eS ['['] rfl) (x_v eS colour rfl)) (ea_cons (x_m2 o2_catS (x_k eS ['[', '/'] rfl) (x_v eS colour rfl)) ea_nil)))) (fun _ => rfl) (fun _ => (by decide : 4 ≤ LIM))) (x_modP 4 (by decide) (x_call T_lw_mix (ea_cons (x_v eI cell_here rfl) (ea_cons (x_k eI (3) rfl) ea_nil))) (x_k eI (4) rfl)))) (fun u13_ => ⟨rfl, ⟨.inl rfl, rfl⟩⟩)) (b_ifT (et_andT (et_b (x_m2 (o2_eq (e' := eI) (by decide)) (x_v eI way rfl) (x_k eI (5) rfl))) (et_tru (x_v eB ends rfl))) (b_ret (k := fun u14_ => u14_) (eg_f (x_k eS ['\n'] rfl)) (fun u14_ => ⟨rfl, ⟨.inl rfl, rfl⟩⟩)) (b_retI (eg_r (x_m2 o2_ixL (x_lst (f := (eL true eS)) (fun t : Ts × Ts × Ts × Ts × Unit => ([t.1, t.2.1, t.2.2.1, t.2.2.2.1] : (List Ts))) (ea_cons (x_m2 o2_ixS (x_call T_lw_signs ea_nil) (x_modP 93 (by decide) (x_call T_lw_mix (ea_cons (x_v eI cell_here rfl) (ea_cons (x_k eI (4) rfl) ea_nil))) (x_k eI (93) rfl))) (ea_cons (x_k eS [' '] rfl) (ea_cons (x_k eS ['a'] rfl) (ea_cons (x_k eS ['B'] rfl) ea_nil)))) (fun _ => rfl) (fun _ => (by decide : 4 ≤ LIM))) (x_modP 4 (by decide) (x_call T_lw_mix (ea_cons (x_v eI cell_here rfl) (ea_cons (x_k eI (5) rfl) ea_nil))) (x_k eI (4) rfl)))) (fun u22_ => ⟨.inl rfl, rfl⟩))))))))))
  refine run_T (n := 4) (kp := [true, true]) (m := m_lw_piece) (ds := [eI cell_here, eB ends]) rfl hb ?_
  first
    | (simp -implicitDefEqProofs only [t_lw_piece, Option.bind_assoc, Option.bind_some, bind_same] at h ⊢; exact h)
    | (simp -implicitDefEqProofs only [t_lw_piece, Option.bind_assoc, Option.bind_some, bind_same] at h; exact h)
    | exact h
    | (simp [t_lw_piece] at h ⊢; exact h)
theorem T_lw_piece : Tf (τ := Int × Bool × Unit) (fun t => [eI t.1, eB t.2.1]) eS F_lw_piece (fun t => t_lw_piece t.1 t.2.1) := fun t r h => ⟨_, L_lw_piece t.1 t.2.1 h⟩
theorem L_law  (script : (List Int)) {r : Bool} (h : t_law script = some r) : F_law [eC script] = some (eB r, (fun _ => [eC script]) r) := by
  have hb : Bk (Qf eB [true] (fun _ => [eC script])) m_law [eC script, .gone, .gone, .gone, .gone, .gone, .gone, .gone, .gone] _ := (b_asg (fun (ends : Bool) => [eC script, eB ends, .gone, .gone, .gone, .gone, .gone, .gone, .gone]) (eg_f (x_m2 o2_gtI (x_modP 4 (by decide) (x_call T_lw_mix (ea_cons (x_call T_lw_cell (ea_cons (x_v eC script rfl) (ea_cons (x_k eI (0) rfl) ea_nil))) (ea_cons (x_k eI (9) rfl) ea_nil))) (x_k eI (4) rfl)) (x_k eI (0) rfl))) (fun _ => rfl) (fun (ends : Bool) => (b_asg (fun (text : Ts) => [eC script, eB ends, eS text, .gone, .gone, .gone, .gone, .gone, .gone]) (eg_f (x_m2 o2_join (x_k eS ([] : Ts) rfl) (x_comp (fun (cell_here : Int) => [eC script, eB ends, .gone, .gone, .gone, .gone, .gone, .gone, eI cell_here]) (ei_itV (x_cold (x_sl (x_v eC script rfl) eo_no (eo_so (x_k eI (60) rfl))))) (fun _ => rfl) (fun (cell_here : Int) => et_yes) (fun (cell_here : Int) => (x_call T_lw_piece (ea_cons (x_v eI cell_here rfl) (ea_cons (x_v eB ends rfl) ea_nil))))))) (fun _ => rfl) (fun (text : Ts) => (b_asg (fun (due : ((List ((List (Ts × Ts × Ts × Int)) × Ts)) × (List (Ts × Ts × Ts × Int)))) => [eC script, eB ends, eS text, (e2 (eL false (e2 (eL false (e4 eS eS eS eI)) eS)) (eL false (e4 eS eS eS eI))) due, .gone, .gone, .gone, .gone, .gone]) (eg_f (x_call T_lw_parts (ea_cons (x_cold (x_call T_lw_items (ea_cons (x_v eS text rfl) ea_nil))) (ea_cons (x_k eI (200) rfl) ea_nil)))) (fun _ => rfl) (fun (due : ((List ((List (Ts × Ts × Ts × Int)) × Ts)) × (List (Ts × Ts × Ts × Int)))) => (b_asg (fun (found : ((List ((List (Ts × Ts × Ts × Int)) × Ts)) × (List (Ts × Ts × Ts × Int)))) => [eC script, eB ends, eS text, (e2 (eL false (e2 (eL false (e4 eS eS eS eI)) eS)) (eL false (e4 eS eS eS eI))) due, (e2 (eL true (e2 (eL true (e4 eS eS eS eI)) eS)) (eL true (e4 eS eS eS eI))) found, .gone, .gone, .gone, .gone]) (eg_f (x_call T_rows_of (ea_cons (x_v eS text rfl) (ea_cons (x_k eI (200) rfl) ea_nil)))) (fun _ => rfl) (fun (found : ((List ((List (Ts × Ts × Ts × Int)) × Ts)) × (List (Ts × Ts × Ts × Int)))) => (b_ifT (et_orT (et_not (et_tru (x_isK kit_tuple_tuple (x_v (e2 (eL true (e2 (eL true (e4 eS eS eS eI)) eS)) (eL true (e4 eS eS eS eI))) found rfl)))) (et_b (x_m2 (o2_ne (e' := eI) (by decide)) (x_a1 (o1_lenK (n := 2) (fun _ => rfl)) (x_v (e2 (eL true (e2 (eL true (e4 eS eS eS eI)) eS)) (eL true (e4 eS eS eS eI))) found rfl)) (x_k eI (2) rfl)))) (b_ret (k := fun u7_ => u7_) (eg_f (x_k eB false rfl)) (fun u7_ => ⟨rfl, ⟨.inl rfl, rfl⟩⟩)) (b_ifT (et_or (et_not (et_tru (x_callF T_lw_parts_right (ea_consW (x_pr (f := (eL true (e2 (eL true (e4 eS eS eS eI)) eS))) 0 (fun t : ((List ((List (Ts × Ts × Ts × Int)) × Ts)) × (List (Ts × Ts × Ts × Int))) => t.1) (fun _ => rfl) (x_v (e2 (eL true (e2 (eL true (e4 eS eS eS eI)) eS)) (eL true (e4 eS eS eS eI))) found rfl)) (ea_cons (x_pr (f := (eL false (e2 (eL false (e4 eS eS eS eI)) eS))) 0 (fun t : ((List ((List (Ts × Ts × Ts × Int)) × Ts)) × (List (Ts × Ts × Ts × Int))) => t.1) (fun _ => rfl) (x_v (e2 (eL false (e2 (eL false (e4 eS eS eS eI)) eS)) (eL false (e4 eS eS eS eI))) due rfl)) ea_nil))))) (et_not (et_tru (x_callF T_lw_letters_right (ea_consW (x_pr (f := (eL true (e4 eS eS eS eI))) 1 (fun t : ((List ((List (Ts × Ts × Ts × Int)) × Ts)) × (List (Ts × Ts × Ts × Int))) => t.2) (fun _ => rfl) (x_v (e2 (eL true (e2 (eL true (e4 eS eS eS eI)) eS)) (eL true (e4 eS eS eS eI))) found rfl)) (ea_cons (x_pr (f := (eL false (e4 eS eS eS eI))) 1 (fun t : ((List ((List (Ts × Ts × Ts × Int)) × Ts)) × (List (Ts × Ts × Ts × Int))) => t.2) (fun _ => rfl) (x_v (e2 (eL false (e2 (eL false (e4 eS eS eS eI)) eS)) (eL false (e4 eS eS eS eI))) due rfl)) ea_nil)))))) (b_ret (k := fun u11_ => u11_) (eg_f (x_k eB false rfl)) (fun u11_ => ⟨rfl, ⟨.inl rfl, rfl⟩⟩)) (b_forCT (e := (e2 (eL true (e4 eS eS eS eI)) eS)) 4 0 [(eL true (e2 (eL true (e4 eS eS eS eI)) eS)) found.1, (eL true (e4 eS eS eS eI)) found.2] found.1 (fun (s12_ : Unit) => [eC script, eB ends, eS text, (e2 (eL false (e2 (eL false (e4 eS eS eS eI)) eS)) (eL false (e4 eS eS eS eI))) due, .gone, .gone, .gone, .gone, .gone]) () (fun (s12_ : Unit) (x13_ : ((List (Ts × Ts × Ts × Int)) × Ts)) => [eC script, eB ends, eS text, (e2 (eL false (e2 (eL false (e4 eS eS eS eI)) eS)) (eL false (e4 eS eS eS eI))) due, .gone, (eL true (e4 eS eS eS eI)) x13_.1, eS x13_.2, .gone, .gone]) (fun (s12_ : Unit) => [eC script, eB ends, eS text, (e2 (eL false (e2 (eL false (e4 eS eS eS eI)) eS)) (eL false (e4 eS eS eS eI))) due, (e2 (eL true eGn) (eL true (e4 eS eS eS eI))) (List.replicate (List.length found.1) (), found.2), .gone, .gone, .gone, .gone]) rfl rfl rfl (fun _ _ => rfl) (fun (s12_ : Unit) (x13_ : ((List (Ts × Ts × Ts × Int)) × Ts)) => (b_expr (eg_clear (a := (e4 eS eS eS eI)) (xs := x13_.1) (ρ2 := [eC script, eB ends, eS text, (e2 (eL false (e2 (eL false (e4 eS eS eS eI)) eS)) (eL false (e4 eS eS eS eI))) due, .gone, (eL true (e4 eS eS eS eI)) ([] : (List (Ts × Ts × Ts × Int))), eS x13_.2, .gone, .gone]) rfl rfl) (fun (u14_ : Unit) => (b_nil (t := ()) ⟨rfl, rfl⟩)))) (fun _ => rfl) (fun (s12_ : Unit) => (b_expr (eg_clear (a := (e4 eS eS eS eI)) (xs := (List.replicate (List.length found.1) (), found.2).2) (ρ2 := [eC script, eB ends, eS text, (e2 (eL false (e2 (eL false (e4 eS eS eS eI)) eS)) (eL false (e4 eS eS eS eI))) due, (e2 (eL true eGn) (eL true (e4 eS eS eS eI))) ((List.replicate (List.length found.1) (), found.2).1, ([] : (List (Ts × Ts × Ts × Int)))), .gone, .gone, .gone, .gone]) rfl rfl) (fun (u15_ : Unit) => (b_asg (fun (again : ((List ((List (Ts × Ts × Ts × Int)) × Ts)) × (List (Ts × Ts × Ts × Int)))) => [eC script, eB ends, eS text, (e2 (eL false (e2 (eL false (e4 eS eS eS eI)) eS)) (eL false (e4 eS eS eS eI))) due, (e2 (eL true eGn) (eL true (e4 eS eS eS eI))) ((List.replicate (List.length found.1) (), found.2).1, ([] : (List (Ts × Ts × Ts × Int)))), .gone, .gone, (e2 (eL false (e2 (eL false (e4 eS eS eS eI)) eS)) (eL false (e4 eS eS eS eI))) again, .gone]) (eg_f (x_cold (x_call T_rows_of (ea_cons (x_v eS text rfl) (ea_cons (x_k eI (200) rfl) ea_nil))))) (fun _ => rfl) (fun (again : ((List ((List (Ts × Ts × Ts × Int)) × Ts)) × (List (Ts × Ts × Ts × Int)))) => (b_retI (eg_f (x_and (x_call T_lw_parts_right (ea_cons (x_pr (f := (eL false (e2 (eL false (e4 eS eS eS eI)) eS))) 0 (fun t : ((List ((List (Ts × Ts × Ts × Int)) × Ts)) × (List (Ts × Ts × Ts × Int))) => t.1) (fun _ => rfl) (x_v (e2 (eL false (e2 (eL false (e4 eS eS eS eI)) eS)) (eL false (e4 eS eS eS eI))) again rfl)) (ea_cons (x_pr (f := (eL false (e2 (eL false (e4 eS eS eS eI)) eS))) 0 (fun t : ((List ((List (Ts × Ts × Ts × Int)) × Ts)) × (List (Ts × Ts × Ts × Int))) => t.1) (fun _ => rfl) (x_v (e2 (eL false (e2 (eL false (e4 eS eS eS eI)) eS)) (eL false (e4 eS eS eS eI))) due rfl)) ea_nil))) (x_call T_lw_letters_right (ea_cons (x_pr (f := (eL false (e4 eS eS eS eI))) 1 (fun t : ((List ((List (Ts × Ts × Ts × Int)) × Ts)) × (List (Ts × Ts × Ts × Int))) => t.2) (fun _ => rfl) (x_v (e2 (eL false (e2 (eL false (e4 eS eS eS eI)) eS)) (eL false (e4 eS eS eS eI))) again rfl)) (ea_cons (x_pr (f := (eL false (e4 eS eS eS eI))) 1 (fun t : ((List ((List (Ts × Ts × Ts × Int)) × Ts)) × (List (Ts × Ts × Ts × Int))) => t.2) (fun _ => rfl) (x_v (e2 (eL false (e2 (eL false (e4 eS eS eS eI)) eS)) (eL false (e4 eS eS eS eI))) due rfl)) ea_nil))))) (fun u17_ => ⟨.inl rfl, rfl⟩))))))))))))))))))
  refine run_T (n := 9) (kp := [true]) (m := m_law) (ds := [eC script]) rfl hb ?_
  first
    | (simp -implicitDefEqProofs only [t_law, Option.bind_assoc, Option.bind_some, bind_same] at h ⊢; exact h)
    | (simp -implicitDefEqProofs only [t_law, Option.bind_assoc, Option.bind_some, bind_same] at h; exact h)
    | exact h
    | (simp [t_law] at h ⊢; exact h)
theorem T_law : Tf (τ := (List Int) × Unit) (fun t => [eC t.1]) eB F_law (fun t => t_law t.1) := fun t r h => ⟨_, L_law t.1 h⟩
end LW
namespace LW
open PySem L2 LI OW
theorem piece_ex (c : Int) (b : Bool) : ∃ s, t_lw_piece c b = some s ∧ gd s = true := by
  obtain ⟨v1, e1, _, _⟩ := mix_ex c 1 (by omega) (by omega)
  obtain ⟨v0, e0, _, _⟩ := mix_ex c 0 (by omega) (by omega)
  obtain ⟨v3, e3, _, _⟩ := mix_ex c 3 (by omega) (by omega)
  obtain ⟨v4, e4, _, _⟩ := mix_ex c 4 (by omega) (by omega)
  obtain ⟨v5, e5, _, _⟩ := mix_ex c 5 (by omega) (by omega)
  obtain ⟨k, hk, ek⟩ := colour_ex (v := v1)
  have hok : okC k = true := cols_ok k hk
  have h93 := mod_in v4 93 (by omega)
  have h4 := mod_in v3 4 (by omega)
  have h5 := mod_in v5 4 (by omega)
  obtain ⟨d, hd, ed⟩ := ixS_mem (s := lwS) (by rw [lwS_len]; decide) h93.1 (by rw [lwS_len]; exact h93.2)
  have hdk : okC d = true := by simp [okC, lwS_ok d hd]
  have b1 : okC '[' = true := by decide
  have b2 : okC ']' = true := by decide
  have b3 : okC '/' = true := by decide
  have b4 : okC ' ' = true := by decide
  have b5 : okC 'a' = true := by decide
  have b6 : okC 'B' = true := by decide
  unfold t_lw_piece
  simp only [e1, e0, e3, e4, e5, Option.bind_some, ek, lw_signs_eq, ed]
  simp only [catS, catL, appT, LIM, List.length_cons, List.length_nil, List.length_append, List.cons_append, List.nil_append, Nat.reduceAdd, Nat.reduceLeDiff, Nat.reduceLT, if_true, Option.bind_some]
  split
  · exact ⟨_, rfl, by simp [gd, hok, b1, b2]⟩
  · split
    · exact ⟨_, rfl, by simp [gd, hok, b1, b2, b3]⟩
    · split
      · exact atI_all h4.1 (by simpa using h4.2) (by simp [gd, hok, b1, b2, b3])
      · split
        · exact ⟨_, rfl, by decide⟩
        · exact atI_all h5.1 (by simpa using h5.2) (by simp [gd, hdk, b4, b5, b6])
theorem texts_ex (ns : List Int) (b : Bool) (hl : ns.length ≤ 63) : ∃ s, ((compT (fun (_ : Int) => some true) (fun (c : Int) => t_lw_piece c b) ns).bind fun v => joinS [] v) = some s ∧ (∀ c ∈ s, okC c = true) ∧ s.length ≤ 9 * ns.length := by
  obtain ⟨ts, h1, h2, h3⟩ := compT_ex (g := fun (c : Int) => t_lw_piece c b) (P := fun _ s => gd s = true) (xs := ns) (by unfold LIM; omega) fun c _ => piece_ex c b
  have h4 : ∀ s ∈ ts, gd s = true := fun s hs => by
    obtain ⟨_, _, h⟩ := h3 s hs; exact h
  have h5 := flat_len (ss := ts) (n := 9) fun s hs => (gd_ok (h4 s hs)).2.2
  refine ⟨ts.flatten, ?_, ?_, by omega⟩
  · rw [h1, Option.bind_some]
    unfold joinS
    rw [if_pos (by rw [flat_sum, List.length_nil, Nat.mul_zero, Nat.add_zero]; unfold LIM; omega), join_nil]
  · intro c hc
    obtain ⟨s, hs, hc⟩ := List.mem_flatten.mp hc
    exact (gd_ok (h4 s hs)).1 c hc
theorem law_t (ns : List Int) (hl : ns.length ≤ 63) (hb : ∀ z ∈ ns, Builtin.Int.intBits z ≤ 1048576) : t_law ns = some true := by
  obtain ⟨v9, e9, _, _⟩ := mix_ex (ns.getD 0 0) 9 (by omega) (by omega)
  unfold t_law
  rw [show t_lw_cell ns 0 = _ from cell_eq ns 0, Option.bind_some, e9]
  simp only [Option.bind_some]
  rw [cut_to (by omega)]
  obtain ⟨text, et, hok, hlen⟩ := texts_ex (ns.take (60 : Int).toNat) (decide (0 < v9 % 4)) (by rw [List.length_take]; omega)
  have hlen' : text.length ≤ 600 := by rw [List.length_take] at hlen; omega
  have hle := its_len _ 0 text (Nat.le_refl _)
  rw [et, Option.bind_some, lw_items_eq (by omega), Option.bind_some, lw_parts_eq (by omega) (by omega) (its_GI _ 0 text (Nat.le_refl _) hok) (by omega), Option.bind_some, rows_of_eq (by omega) (by omega) hok (by omega)]
  simp only [Option.bind_some, decide_true, Bool.not_true, Bool.or_self, Bool.false_eq_true, if_false, parts_right_eq, letters_right_eq]
  obtain ⟨s, e, _⟩ := foldT_inv (g := fun (_ : Unit) (x11_ : Pt) => some ()) (fun _ => True) (mkA 200 s00 (its 0 text)).2 () trivial fun s x _ _ => ⟨(), rfl, trivial⟩
  rw [e, Option.bind_some]
  rfl
end LW
namespace LW
open PySem L2 PyProof.Rows LI
/-! ### the text -/
def topS (i : Nat) : Stmt := PySem.Challenge.pw_outweave_k22_inks_and_grounds.main.body.getD i (.Pass ⟨0, 0, 0, 0⟩)
abbrev s_is_sign : Stmt := topS 10
abbrev N_is_sign : List Str := ["thing"]
theorem sc_is_sign : FnScope N_is_sign ["thing"] (defScope s_is_sign) := ⟨rfl, rfl, rfl, by decide +kernel, rfl, by decide +kernel, by decide +kernel⟩
abbrev s_is_colour : Stmt := topS 11
abbrev N_is_colour : List Str := ["thing"]
theorem sc_is_colour : FnScope N_is_colour ["thing"] (defScope s_is_colour) := ⟨rfl, rfl, rfl, by decide +kernel, rfl, by decide +kernel, by decide +kernel⟩
abbrev s_checked : Stmt := topS 12
abbrev N_checked : List Str := ["text", "at", "sign"]
theorem sc_checked : FnScope N_checked ["text"] (defScope s_checked) := ⟨rfl, rfl, rfl, by decide +kernel, rfl, by decide +kernel, by decide +kernel⟩
abbrev s_sign_item : Stmt := topS 16
abbrev N_sign_item : List Str := ["place", "sign"]
theorem sc_sign_item : FnScope N_sign_item ["place", "sign"] (defScope s_sign_item) := ⟨rfl, rfl, rfl, by decide +kernel, rfl, by decide +kernel, by decide +kernel⟩
abbrev s_begins_mark : Stmt := topS 17
abbrev N_begins_mark : List Str := ["text"]
theorem sc_begins_mark : FnScope N_begins_mark ["text"] (defScope s_begins_mark) := ⟨rfl, rfl, rfl, by decide +kernel, rfl, by decide +kernel, by decide +kernel⟩
abbrev s_mark_item : Stmt := topS 18
abbrev N_mark_item : List Str := ["place", "text"]
theorem sc_mark_item : FnScope N_mark_item ["place", "text"] (defScope s_mark_item) := ⟨rfl, rfl, rfl, by decide +kernel, rfl, by decide +kernel, by decide +kernel⟩
abbrev s_Reader_init : Stmt := L2.inClass (topS 19) 0
abbrev N_Reader_init : List Str := ["self"]
theorem sc_Reader_init : FnScope N_Reader_init ["self"] (defScope s_Reader_init) := ⟨rfl, rfl, rfl, by decide +kernel, rfl, by decide +kernel, by decide +kernel⟩
abbrev s_Reader_told : Stmt := L2.inClass (topS 19) 2
abbrev N_Reader_told : List Str := ["self", "many", "found", "sign"]
theorem sc_Reader_told : FnScope N_Reader_told ["self", "many"] (defScope s_Reader_told) := ⟨rfl, rfl, rfl, by decide +kernel, rfl, by decide +kernel, by decide +kernel⟩
abbrev s_Reader_take : Stmt := L2.inClass (topS 19) 3
abbrev N_Reader_take : List Str := ["self", "sign", "whole", "found"]
theorem sc_Reader_take : FnScope N_Reader_take ["self", "sign"] (defScope s_Reader_take) := ⟨rfl, rfl, rfl, by decide +kernel, rfl, by decide +kernel, by decide +kernel⟩
abbrev s_Reader_feed : Stmt := L2.inClass (topS 19) 4
abbrev N_Reader_feed : List Str := ["self", "piece", "found", "sign"]
theorem sc_Reader_feed : FnScope N_Reader_feed ["self", "piece"] (defScope s_Reader_feed) := ⟨rfl, rfl, rfl, by decide +kernel, rfl, by decide +kernel, by decide +kernel⟩
abbrev s_Reader_finish : Stmt := L2.inClass (topS 19) 5
abbrev N_Reader_finish : List Str := ["self"]
theorem sc_Reader_finish : FnScope N_Reader_finish ["self"] (defScope s_Reader_finish) := ⟨rfl, rfl, rfl, by decide +kernel, rfl, by decide +kernel, by decide +kernel⟩
abbrev s_items_of : Stmt := topS 20
abbrev N_items_of : List Str := ["text", "reader", "found"]
theorem sc_items_of : FnScope N_items_of ["text"] (defScope s_items_of) := ⟨rfl, rfl, rfl, by decide +kernel, rfl, by decide +kernel, by decide +kernel⟩
abbrev s_checked_most : Stmt := topS 25
abbrev N_checked_most : List Str := ["most"]
theorem sc_checked_most : FnScope N_checked_most ["most"] (defScope s_checked_most) := ⟨rfl, rfl, rfl, by decide +kernel, rfl, by decide +kernel, by decide +kernel⟩
abbrev s_Maker_init : Stmt := L2.inClass (topS 26) 0
abbrev N_Maker_init : List Str := ["self", "most"]
theorem sc_Maker_init : FnScope N_Maker_init ["self", "most"] (defScope s_Maker_init) := ⟨rfl, rfl, rfl, by decide +kernel, rfl, by decide +kernel, by decide +kernel⟩
abbrev s_Maker_open_letters : Stmt := L2.inClass (topS 26) 1
abbrev N_Maker_open_letters : List Str := ["self"]
theorem sc_Maker_open_letters : FnScope N_Maker_open_letters ["self"] (defScope s_Maker_open_letters) := ⟨rfl, rfl, rfl, by decide +kernel, rfl, by decide +kernel, by decide +kernel⟩
abbrev s_Maker_make_plain : Stmt := L2.inClass (topS 26) 3
abbrev N_Maker_make_plain : List Str := ["self"]
theorem sc_Maker_make_plain : FnScope N_Maker_make_plain ["self"] (defScope s_Maker_make_plain) := ⟨rfl, rfl, rfl, by decide +kernel, rfl, by decide +kernel, by decide +kernel⟩
abbrev s_Maker_tell_part : Stmt := L2.inClass (topS 26) 4
abbrev N_Maker_tell_part : List Str := ["self", "word", "part"]
theorem sc_Maker_tell_part : FnScope N_Maker_tell_part ["self", "word"] (defScope s_Maker_tell_part) := ⟨rfl, rfl, rfl, by decide +kernel, rfl, by decide +kernel, by decide +kernel⟩
abbrev s_Maker_put_sign : Stmt := L2.inClass (topS 26) 5
abbrev N_Maker_put_sign : List Str := ["self", "sign", "place", "found"]
theorem sc_Maker_put_sign : FnScope N_Maker_put_sign ["self", "sign", "place"] (defScope s_Maker_put_sign) := ⟨rfl, rfl, rfl, by decide +kernel, rfl, by decide +kernel, by decide +kernel⟩
abbrev s_Maker_put : Stmt := L2.inClass (topS 26) 6
abbrev N_Maker_put : List Str := ["self", "item", "place", "kind", "value"]
theorem sc_Maker_put : FnScope N_Maker_put ["self", "item"] (defScope s_Maker_put) := ⟨rfl, rfl, rfl, by decide +kernel, rfl, by decide +kernel, by decide +kernel⟩
abbrev s_rows_of : Stmt := topS 27
abbrev N_rows_of : List Str := ["text", "most", "maker", "parts", "item"]
theorem sc_rows_of : FnScope N_rows_of ["text", "most"] (defScope s_rows_of) := ⟨rfl, rfl, rfl, by decide +kernel, rfl, by decide +kernel, by decide +kernel⟩
abbrev s_lw_cell : Stmt := topS 29
abbrev N_lw_cell : List Str := ["_law_script", "_law_k"]
theorem sc_lw_cell : FnScope N_lw_cell ["_law_script", "_law_k"] (defScope s_lw_cell) := ⟨rfl, rfl, rfl, by decide +kernel, rfl, by decide +kernel, by decide +kernel⟩
abbrev s_lw_mix : Stmt := topS 30
abbrev N_lw_mix : List Str := ["_law_cell_here", "_law_k", "_law_rest", "_law_turn", "_law_number"]
theorem sc_lw_mix : FnScope N_lw_mix ["_law_cell_here", "_law_k"] (defScope s_lw_mix) := ⟨rfl, rfl, rfl, by decide +kernel, rfl, by decide +kernel, by decide +kernel⟩
abbrev s_lw_signs : Stmt := topS 31
abbrev N_lw_signs : List Str := ["_law_some"]
theorem sc_lw_signs : FnScope N_lw_signs [] (defScope s_lw_signs) := ⟨rfl, rfl, rfl, by decide +kernel, rfl, by decide +kernel, by decide +kernel⟩
abbrev s_lw_item : Stmt := topS 32
abbrev N_lw_item : List Str := ["_law_text", "_law_at", "_law_colours", "_law_here"]
theorem sc_lw_item : FnScope N_lw_item ["_law_text", "_law_at"] (defScope s_lw_item) := ⟨rfl, rfl, rfl, by decide +kernel, rfl, by decide +kernel, by decide +kernel⟩
abbrev s_lw_items : Stmt := topS 33
abbrev N_lw_items : List Str := ["_law_text", "_law_items_here", "_law_at", "_law_item_here", "_law_size"]
theorem sc_lw_items : FnScope N_lw_items ["_law_text"] (defScope s_lw_items) := ⟨rfl, rfl, rfl, by decide +kernel, rfl, by decide +kernel, by decide +kernel⟩
abbrev s_lw_parts : Stmt := topS 34
abbrev N_lw_parts : List Str := ["_law_items_here", "_law_most", "_law_parts_here", "_law_row", "_law_stale", "_law_colours", "_law_place", "_law_kind", "_law_value"]
theorem sc_lw_parts : FnScope N_lw_parts ["_law_items_here", "_law_most"] (defScope s_lw_parts) := ⟨rfl, rfl, rfl, by decide +kernel, rfl, by decide +kernel, by decide +kernel⟩
abbrev s_lw_whole : Stmt := topS 35
abbrev N_lw_whole : List Str := ["_law_found"]
theorem sc_lw_whole : FnScope N_lw_whole ["_law_found"] (defScope s_lw_whole) := ⟨rfl, rfl, rfl, by decide +kernel, rfl, by decide +kernel, by decide +kernel⟩
abbrev s_lw_letters_right : Stmt := topS 36
abbrev N_lw_letters_right : List Str := ["_law_found", "_law_due", "_law_letter", "_law_thing"]
theorem sc_lw_letters_right : FnScope N_lw_letters_right ["_law_found", "_law_due"] (defScope s_lw_letters_right) := ⟨rfl, rfl, rfl, by decide +kernel, rfl, by decide +kernel, by decide +kernel⟩
abbrev s_lw_parts_right : Stmt := topS 37
abbrev N_lw_parts_right : List Str := ["_law_found", "_law_due", "_law_part", "_law_other"]
theorem sc_lw_parts_right : FnScope N_lw_parts_right ["_law_found", "_law_due"] (defScope s_lw_parts_right) := ⟨rfl, rfl, rfl, by decide +kernel, rfl, by decide +kernel, by decide +kernel⟩
abbrev s_lw_piece : Stmt := topS 38
abbrev N_lw_piece : List Str := ["_law_cell_here", "_law_ends", "_law_colour", "_law_way"]
theorem sc_lw_piece : FnScope N_lw_piece ["_law_cell_here", "_law_ends"] (defScope s_lw_piece) := ⟨rfl, rfl, rfl, by decide +kernel, rfl, by decide +kernel, by decide +kernel⟩
abbrev s_law : Stmt := topS 39
abbrev N_law : List Str := ["_law_script", "_law_ends", "_law_text", "_law_due", "_law_found", "_law_letters", "_law_word", "_law_again", "_law_cell_here"]
theorem sc_law : FnScope N_law ["_law_script"] (defScope s_law) := ⟨rfl, rfl, rfl, by decide +kernel, rfl, by decide +kernel, by decide +kernel⟩
/-! ### what the top has written -/
structure Tx (K : PySem.W.Frag) (mg : Str → Option Value) (w : World) where
  cl : Nat → Addr
  a_is_sign : Addr
  d_is_sign : FuncData
  f_is_sign : Fun K "is_sign" "is_sign" s_is_sign a_is_sign d_is_sign
  b_is_sign : Binds K d_is_sign ["thing"] []
  g_is_sign : mg "is_sign" = some (.ref a_is_sign)
  a_is_colour : Addr
  d_is_colour : FuncData
  f_is_colour : Fun K "is_colour" "is_colour" s_is_colour a_is_colour d_is_colour
  b_is_colour : Binds K d_is_colour ["thing"] []
  g_is_colour : mg "is_colour" = some (.ref a_is_colour)
  a_checked : Addr
  d_checked : FuncData
  f_checked : Fun K "checked" "checked" s_checked a_checked d_checked
  b_checked : Binds K d_checked ["text"] []
  g_checked : mg "checked" = some (.ref a_checked)
  a_sign_item : Addr
  d_sign_item : FuncData
  f_sign_item : Fun K "sign_item" "sign_item" s_sign_item a_sign_item d_sign_item
  b_sign_item : Binds K d_sign_item ["place", "sign"] []
  g_sign_item : mg "sign_item" = some (.ref a_sign_item)
  a_begins_mark : Addr
  d_begins_mark : FuncData
  f_begins_mark : Fun K "begins_mark" "begins_mark" s_begins_mark a_begins_mark d_begins_mark
  b_begins_mark : Binds K d_begins_mark ["text"] []
  g_begins_mark : mg "begins_mark" = some (.ref a_begins_mark)
  a_mark_item : Addr
  d_mark_item : FuncData
  f_mark_item : Fun K "mark_item" "mark_item" s_mark_item a_mark_item d_mark_item
  b_mark_item : Binds K d_mark_item ["place", "text"] []
  g_mark_item : mg "mark_item" = some (.ref a_mark_item)
  a_Reader_init : Addr
  d_Reader_init : FuncData
  f_Reader_init : Fun K "__init__" "Reader.__init__" s_Reader_init a_Reader_init d_Reader_init
  b_Reader_init : Binds K d_Reader_init ["self"] []
  a_Reader_told : Addr
  d_Reader_told : FuncData
  f_Reader_told : Fun K "told" "Reader.told" s_Reader_told a_Reader_told d_Reader_told
  b_Reader_told : Binds K d_Reader_told ["self", "many"] []
  a_Reader_take : Addr
  d_Reader_take : FuncData
  f_Reader_take : Fun K "take" "Reader.take" s_Reader_take a_Reader_take d_Reader_take
  b_Reader_take : Binds K d_Reader_take ["self", "sign"] []
  a_Reader_feed : Addr
  d_Reader_feed : FuncData
  f_Reader_feed : Fun K "feed" "Reader.feed" s_Reader_feed a_Reader_feed d_Reader_feed
  b_Reader_feed : Binds K d_Reader_feed ["self", "piece"] []
  a_Reader_finish : Addr
  d_Reader_finish : FuncData
  f_Reader_finish : Fun K "finish" "Reader.finish" s_Reader_finish a_Reader_finish d_Reader_finish
  b_Reader_finish : Binds K d_Reader_finish ["self"] []
  a_items_of : Addr
  d_items_of : FuncData
  f_items_of : Fun K "items_of" "items_of" s_items_of a_items_of d_items_of
  b_items_of : Binds K d_items_of ["text"] []
  g_items_of : mg "items_of" = some (.ref a_items_of)
  a_checked_most : Addr
  d_checked_most : FuncData
  f_checked_most : Fun K "checked_most" "checked_most" s_checked_most a_checked_most d_checked_most
  b_checked_most : Binds K d_checked_most ["most"] []
  g_checked_most : mg "checked_most" = some (.ref a_checked_most)
  a_Maker_init : Addr
  d_Maker_init : FuncData
  f_Maker_init : Fun K "__init__" "Maker.__init__" s_Maker_init a_Maker_init d_Maker_init
  b_Maker_init : Binds K d_Maker_init ["self", "most"] []
  a_Maker_open_letters : Addr
  d_Maker_open_letters : FuncData
  f_Maker_open_letters : Fun K "open_letters" "Maker.open_letters" s_Maker_open_letters a_Maker_open_letters d_Maker_open_letters
  b_Maker_open_letters : Binds K d_Maker_open_letters ["self"] []
  a_Maker_make_plain : Addr
  d_Maker_make_plain : FuncData
  f_Maker_make_plain : Fun K "make_plain" "Maker.make_plain" s_Maker_make_plain a_Maker_make_plain d_Maker_make_plain
  b_Maker_make_plain : Binds K d_Maker_make_plain ["self"] []
  a_Maker_tell_part : Addr
  d_Maker_tell_part : FuncData
  f_Maker_tell_part : Fun K "tell_part" "Maker.tell_part" s_Maker_tell_part a_Maker_tell_part d_Maker_tell_part
  b_Maker_tell_part : Binds K d_Maker_tell_part ["self", "word"] []
  a_Maker_put_sign : Addr
  d_Maker_put_sign : FuncData
  f_Maker_put_sign : Fun K "put_sign" "Maker.put_sign" s_Maker_put_sign a_Maker_put_sign d_Maker_put_sign
  b_Maker_put_sign : Binds K d_Maker_put_sign ["self", "sign", "place"] []
  a_Maker_put : Addr
  d_Maker_put : FuncData
  f_Maker_put : Fun K "put" "Maker.put" s_Maker_put a_Maker_put d_Maker_put
  b_Maker_put : Binds K d_Maker_put ["self", "item"] []
  a_rows_of : Addr
  d_rows_of : FuncData
  f_rows_of : Fun K "rows_of" "rows_of" s_rows_of a_rows_of d_rows_of
  b_rows_of : Binds K d_rows_of ["text", "most"] []
  g_rows_of : mg "rows_of" = some (.ref a_rows_of)
  a_lw_cell : Addr
  d_lw_cell : FuncData
  f_lw_cell : Fun K "_law_cell" "_law_cell" s_lw_cell a_lw_cell d_lw_cell
  b_lw_cell : Binds K d_lw_cell ["_law_script", "_law_k"] []
  g_lw_cell : mg "_law_cell" = some (.ref a_lw_cell)
  a_lw_mix : Addr
  d_lw_mix : FuncData
  f_lw_mix : Fun K "_law_mix" "_law_mix" s_lw_mix a_lw_mix d_lw_mix
  b_lw_mix : Binds K d_lw_mix ["_law_cell_here", "_law_k"] []
  g_lw_mix : mg "_law_mix" = some (.ref a_lw_mix)
  a_lw_signs : Addr
  d_lw_signs : FuncData
  f_lw_signs : Fun K "_law_signs" "_law_signs" s_lw_signs a_lw_signs d_lw_signs
  b_lw_signs : Binds K d_lw_signs [] []
  g_lw_signs : mg "_law_signs" = some (.ref a_lw_signs)
  a_lw_item : Addr
  d_lw_item : FuncData
  f_lw_item : Fun K "_law_item" "_law_item" s_lw_item a_lw_item d_lw_item
  b_lw_item : Binds K d_lw_item ["_law_text", "_law_at"] []
  g_lw_item : mg "_law_item" = some (.ref a_lw_item)
  a_lw_items : Addr
  d_lw_items : FuncData
  f_lw_items : Fun K "_law_items" "_law_items" s_lw_items a_lw_items d_lw_items
  b_lw_items : Binds K d_lw_items ["_law_text"] []
  g_lw_items : mg "_law_items" = some (.ref a_lw_items)
  a_lw_parts : Addr
  d_lw_parts : FuncData
  f_lw_parts : Fun K "_law_parts" "_law_parts" s_lw_parts a_lw_parts d_lw_parts
  b_lw_parts : Binds K d_lw_parts ["_law_items_here", "_law_most"] []
  g_lw_parts : mg "_law_parts" = some (.ref a_lw_parts)
  a_lw_whole : Addr
  d_lw_whole : FuncData
  f_lw_whole : Fun K "_law_whole" "_law_whole" s_lw_whole a_lw_whole d_lw_whole
  b_lw_whole : Binds K d_lw_whole ["_law_found"] []
  g_lw_whole : mg "_law_whole" = some (.ref a_lw_whole)
  a_lw_letters_right : Addr
  d_lw_letters_right : FuncData
  f_lw_letters_right : Fun K "_law_letters_right" "_law_letters_right" s_lw_letters_right a_lw_letters_right d_lw_letters_right
  b_lw_letters_right : Binds K d_lw_letters_right ["_law_found", "_law_due"] []
  g_lw_letters_right : mg "_law_letters_right" = some (.ref a_lw_letters_right)
  a_lw_parts_right : Addr
  d_lw_parts_right : FuncData
  f_lw_parts_right : Fun K "_law_parts_right" "_law_parts_right" s_lw_parts_right a_lw_parts_right d_lw_parts_right
  b_lw_parts_right : Binds K d_lw_parts_right ["_law_found", "_law_due"] []
  g_lw_parts_right : mg "_law_parts_right" = some (.ref a_lw_parts_right)
  a_lw_piece : Addr
  d_lw_piece : FuncData
  f_lw_piece : Fun K "_law_piece" "_law_piece" s_lw_piece a_lw_piece d_lw_piece
  b_lw_piece : Binds K d_lw_piece ["_law_cell_here", "_law_ends"] []
  g_lw_piece : mg "_law_piece" = some (.ref a_lw_piece)
  a_law : Addr
  d_law : FuncData
  f_law : Fun K "law" "law" s_law a_law d_law
  b_law : Binds K d_law ["_law_script"] []
  g_law : mg "law" = some (.ref a_law)
  z_bool : mg "bool" = none
  z_enumerate : mg "enumerate" = none
  z_int : mg "int" = none
  z_isinstance : mg "isinstance" = none
  z_len : mg "len" = none
  z_list : mg "list" = none
  z_range : mg "range" = none
  z_str : mg "str" = none
  z_tuple : mg "tuple" = none
  z_zip : mg "zip" = none
  k_COLOURS : ∃ u, mg "COLOURS" = some u ∧ RelV (.str ⟨([97, 98, 99, 100, 101, 102, 103, 104, 46] : List Nat).toArray⟩) u
  k_CONTROLS : ∃ u, mg "CONTROLS" = some u ∧ RelV (.str ⟨([10, 9] : List Nat).toArray⟩) u
  k_ENDS : GlKd K mg w "ENDS" kv_ENDS
  k_FIRST : ∃ u, mg "FIRST" = some u ∧ RelV (.str ⟨([32] : List Nat).toArray⟩) u
  k_LAST : ∃ u, mg "LAST" = some u ∧ RelV (.str ⟨([125] : List Nat).toArray⟩) u
  k_MORE : ∃ u, mg "MORE" = some u ∧ RelV (.str ⟨([109, 111, 114, 101] : List Nat).toArray⟩) u
  k_MOST : ∃ u, mg "MOST" = some u ∧ RelV (.int 200) u
  k_PLAIN : ∃ u, mg "PLAIN" = some u ∧ RelV (.str ⟨([46] : List Nat).toArray⟩) u
  k_WHOLE : ∃ u, mg "WHOLE" = some u ∧ RelV (.str ⟨([119, 104, 111, 108, 101] : List Nat).toArray⟩) u
  cls_Reader : Cls K (cl 3)
  gc_Reader : mg "Reader" = some (.ref (cl 3))
  cls_Maker : Cls K (cl 4)
  gc_Maker : mg "Maker" = some (.ref (cl 4))
  na_Reader_kept : NoAttr K (cl 3) "kept"
  na_Reader_place : NoAttr K (cl 3) "place"
  me_Reader_told : Meth K (cl 3) "told" a_Reader_told
  me_Reader_take : Meth K (cl 3) "take" a_Reader_take
  mk_Reader : Mk K (cl 3) a_Reader_init
  me_Reader_feed : Meth K (cl 3) "feed" a_Reader_feed
  me_Reader_finish : Meth K (cl 3) "finish" a_Reader_finish
  na_Maker_most : NoAttr K (cl 4) "most"
  na_Maker_row : NoAttr K (cl 4) "row"
  na_Maker_ink : NoAttr K (cl 4) "ink"
  na_Maker_ground : NoAttr K (cl 4) "ground"
  na_Maker_stale : NoAttr K (cl 4) "stale"
  na_Maker_more : NoAttr K (cl 4) "more"
  me_Maker_tell_part : Meth K (cl 4) "tell_part" a_Maker_tell_part
  me_Maker_make_plain : Meth K (cl 4) "make_plain" a_Maker_make_plain
  me_Maker_put_sign : Meth K (cl 4) "put_sign" a_Maker_put_sign
  mk_Maker : Mk K (cl 4) a_Maker_init
  me_Maker_put : Meth K (cl 4) "put" a_Maker_put
  me_Maker_open_letters : Meth K (cl 4) "open_letters" a_Maker_open_letters
/-! ### the walks -/
section
variable {P : Program} {w : World} {K : PySem.W.Frag} {mg : Str → Option Value} {base : Heap}
theorem ok_is_sign (T : Tx K mg w) : FnOk P w K mg base CX0 1 T.a_is_sign T.d_is_sign ["thing"] (spD ⟨K, T.cl⟩ F_is_sign) := by
  refine ok_def (N := N_is_sign) (m := m_is_sign) (kp := [true]) T.f_is_sign sc_is_sign rfl (fun cdv A outer s H XE en ek hr => ?_)
  have hu := hr.units
  have nd := (sc_is_sign).nd
  exact (s_cons (s_ret (g_f (f_and (r_f (f_isi' (r_v 0) (pe_bltn (v := .ty "str") (u := .type "str") (by rfl) T.z_str (by decide +kernel) rfl) T.z_isinstance)) (f_and (r_f (v_cmp (op_eqD hu) op_eqqD flat_eq (v_r (r_f (f_blt cr_len op_lenD (by rfl) T.z_len (by decide +kernel) (a_cons (r_v 0) a_nil)))) (v_r (r_f f_int)) (nomark _))) (f_one (f_ch opr_le op_cmpD opr_le op_cmpD (r_f (f_glS [32] T.k_FIRST)) (r_v 0) (r_f (f_glS [125] T.k_LAST)))))))) s_nil)
theorem ok_is_colour (T : Tx K mg w) : FnOk P w K mg base CX0 1 T.a_is_colour T.d_is_colour ["thing"] (spD ⟨K, T.cl⟩ F_is_colour) := by
  refine ok_def (N := N_is_colour) (m := m_is_colour) (kp := [true]) T.f_is_colour sc_is_colour rfl (fun cdv A outer s H XE en ek hr => ?_)
  have hu := hr.units
  have nd := (sc_is_colour).nd
  exact (s_cons (s_ret (g_f (f_and (r_f (f_isi' (r_v 0) (pe_bltn (v := .ty "str") (u := .type "str") (by rfl) T.z_str (by decide +kernel) rfl) T.z_isinstance)) (f_and (r_f (v_cmp (op_eqD hu) op_eqqD flat_eq (v_r (r_f (f_blt cr_len op_lenD (by rfl) T.z_len (by decide +kernel) (a_cons (r_v 0) a_nil)))) (v_r (r_f f_int)) (nomark _))) (f_one (f_in hu (r_v 0) (r_f (f_glS [97, 98, 99, 100, 101, 102, 103, 104, 46] T.k_COLOURS)))))))) s_nil)
theorem ok_checked (T : Tx K mg w) : FnOk P w K mg base CX0 2 T.a_checked T.d_checked ["text"] (spD ⟨K, T.cl⟩ F_checked) := by
  refine ok_def (N := N_checked) (m := m_checked) (kp := [true]) T.f_checked sc_checked rfl (fun cdv A outer s H XE en ek hr => ?_)
  have hu := hr.units
  have nd := (sc_checked).nd
  exact (s_cons (s_if (t_not (t_val (r_f (f_isi' (r_v 0) (pe_bltn (v := .ty "str") (u := .type "str") (by rfl) T.z_str (by decide +kernel) rfl) T.z_isinstance)))) ss_never s_nil)
      (s_cons (s_for [1, 2] PassesOwn.never rfl (i_enumS (by rfl) T.z_enumerate (r_v 0)) (g_tup rfl (gs_cons (g_name 1 nd (by rfl) (by first | exact Or.inl rfl | exact Or.inr rfl) (by rw [ek]; decide)) (gs_cons (g_name 2 nd (by rfl) (by first | exact Or.inl rfl | exact Or.inr rfl) (by rw [ek]; decide)) gs_nil)) (hlen := len_cons (len_cons (fun _ _ _ h => len_nil h)))) (s_cons (s_if (t_w (w_and (t_not (t_val (r_f (f_call (ok_is_sign T) (hr.mono (by decide)) (by rfl) T.g_is_sign T.f_is_sign.kp T.b_is_sign pass0 (a_cons (r_v 2) a_nil))))) (w_and1 (t_nin hu (r_v 2) (r_f (f_glS [10, 9] T.k_CONTROLS)))))) ss_never s_nil)
      s_nil))
      s_nil))
theorem ok_sign_item (T : Tx K mg w) : FnOk P w K mg base CX0 1 T.a_sign_item T.d_sign_item ["place", "sign"] (spD ⟨K, T.cl⟩ F_sign_item) := by
  refine ok_def (N := N_sign_item) (m := m_sign_item) (kp := [true, true]) T.f_sign_item sc_sign_item rfl (fun cdv A outer s H XE en ek hr => ?_)
  have hu := hr.units
  have nd := (sc_sign_item).nd
  exact (s_cons (s_if (t_inK (r_v 1) (by rfl) T.k_ENDS) (s_cons (s_ret (g_f (f_tup (a_cons (r_v 0) (a_cons (r_f (f_ixK (r_v 1) (by rfl) T.k_ENDS)) (a_cons (r_f (f_str [])) a_nil)))))) s_nil) s_nil)
      (s_cons (s_ret (g_f (f_tup (a_cons (r_v 0) (a_cons (r_f (f_str [115, 105, 103, 110])) (a_cons (r_v 1) a_nil)))))) s_nil))
theorem ok_begins_mark (T : Tx K mg w) : FnOk P w K mg base CX0 2 T.a_begins_mark T.d_begins_mark ["text"] (spD ⟨K, T.cl⟩ F_begins_mark) := by
  refine ok_def (N := N_begins_mark) (m := m_begins_mark) (kp := [true]) T.f_begins_mark sc_begins_mark rfl (fun cdv A outer s H XE en ek hr => ?_)
  have hu := hr.units
  have nd := (sc_begins_mark).nd
  exact (s_cons (s_if (t_in hu (r_v 0) (r_f (f_tup (a_cons (r_f (f_str [91])) (a_cons (r_f (f_str [91, 47])) a_nil))))) (s_cons (s_ret (g_f f_bl)) s_nil) s_nil)
      (s_cons (s_if (t_w (w_and (tv_cmp (op_eqD hu) op_eqqD flat_eq (v_r (r_f (f_blt cr_len op_lenD (by rfl) T.z_len (by decide +kernel) (a_cons (r_v 0) a_nil)))) (v_r (r_f f_int)) (nomark _)) (w_and1 (tv_cmp (op_eqD hu) op_eqqD flat_eq (v_r (r_ix hu (r_v 0) (r_f f_int))) (v_r (r_f (f_str [91]))) (nomark _))))) (s_cons (s_ret (g_f (f_call (ok_is_colour T) (hr.mono (by decide)) (by rfl) T.g_is_colour T.f_is_colour.kp T.b_is_colour pass0 (a_cons (r_ix hu (r_v 0) (r_f f_int)) a_nil)))) s_nil) s_nil)
      (s_cons (s_ret (g_f (f_and (r_f (v_cmp (op_eqD hu) op_eqqD flat_eq (v_r (r_f (f_blt cr_len op_lenD (by rfl) T.z_len (by decide +kernel) (a_cons (r_v 0) a_nil)))) (v_r (r_f f_int)) (nomark _))) (f_and (r_f (v_cmp (op_eqD hu) op_eqqD flat_eq (v_r (r_f (f_sl (r_v 0) o_none (o_some (r_f f_int))))) (v_r (r_f (f_str [91, 47]))) (nomark _))) (f_one (f_call (ok_is_colour T) (hr.mono (by decide)) (by rfl) T.g_is_colour T.f_is_colour.kp T.b_is_colour pass0 (a_cons (r_ix hu (r_v 0) (r_f f_int)) a_nil))))))) s_nil)))
theorem ok_mark_item (T : Tx K mg w) : FnOk P w K mg base CX0 2 T.a_mark_item T.d_mark_item ["place", "text"] (spD ⟨K, T.cl⟩ F_mark_item) := by
  refine ok_def (N := N_mark_item) (m := m_mark_item) (kp := [true, true]) T.f_mark_item sc_mark_item rfl (fun cdv A outer s H XE en ek hr => ?_)
  have hu := hr.units
  have nd := (sc_mark_item).nd
  exact (s_cons (s_if (tv_cmp (op_eqD hu) op_eqqD flat_eq (v_r (r_v 1)) (v_r (r_f (f_str [91, 91]))) (nomark _)) (s_cons (s_ret (g_f (f_tup (a_cons (r_v 0) (a_cons (r_f (f_str [115, 105, 103, 110])) (a_cons (r_f (f_str [91])) a_nil)))))) s_nil) s_nil)
      (s_cons (s_if (tv_cmp (op_eqD hu) op_eqqD flat_eq (v_r (r_v 1)) (v_r (r_f (f_str [91, 93]))) (nomark _)) (s_cons (s_ret (g_f (f_tup (a_cons (r_v 0) (a_cons (r_f (f_str [112, 108, 97, 105, 110])) (a_cons (r_f (f_str [])) a_nil)))))) s_nil) s_nil)
      (s_cons (s_if (t_w (w_and (tv_cmp (op_eqD hu) op_eqqD flat_eq (v_r (r_f (f_blt cr_len op_lenD (by rfl) T.z_len (by decide +kernel) (a_cons (r_v 1) a_nil)))) (v_r (r_f f_int)) (nomark _)) (w_and (tv_cmp (op_eqD hu) op_eqqD flat_eq (v_r (r_ix hu (r_v 1) (r_f f_int))) (v_r (r_f (f_str [91]))) (nomark _)) (w_and (t_val (r_f (f_call (ok_is_colour T) (hr.mono (by decide)) (by rfl) T.g_is_colour T.f_is_colour.kp T.b_is_colour pass0 (a_cons (r_ix hu (r_v 1) (r_f f_int)) a_nil)))) (w_and1 (tv_cmp (op_eqD hu) op_eqqD flat_eq (v_r (r_ix hu (r_v 1) (r_f f_int))) (v_r (r_f (f_str [93]))) (nomark _))))))) (s_cons (s_ret (g_f (f_tup (a_cons (r_v 0) (a_cons (r_f (f_str [105, 110, 107])) (a_cons (r_ix hu (r_v 1) (r_f f_int)) a_nil)))))) s_nil) s_nil)
      (s_cons (s_if (t_w (w_and (tv_cmp (op_eqD hu) op_eqqD flat_eq (v_r (r_f (f_blt cr_len op_lenD (by rfl) T.z_len (by decide +kernel) (a_cons (r_v 1) a_nil)))) (v_r (r_f f_int)) (nomark _)) (w_and (tv_cmp (op_eqD hu) op_eqqD flat_eq (v_r (r_f (f_sl (r_v 1) o_none (o_some (r_f f_int))))) (v_r (r_f (f_str [91, 47]))) (nomark _)) (w_and (t_val (r_f (f_call (ok_is_colour T) (hr.mono (by decide)) (by rfl) T.g_is_colour T.f_is_colour.kp T.b_is_colour pass0 (a_cons (r_ix hu (r_v 1) (r_f f_int)) a_nil)))) (w_and1 (tv_cmp (op_eqD hu) op_eqqD flat_eq (v_r (r_ix hu (r_v 1) (r_f f_int))) (v_r (r_f (f_str [93]))) (nomark _))))))) (s_cons (s_ret (g_f (f_tup (a_cons (r_v 0) (a_cons (r_f (f_str [103, 114, 111, 117, 110, 100])) (a_cons (r_ix hu (r_v 1) (r_f f_int)) a_nil)))))) s_nil) s_nil)
      (s_cons (s_ret (g_f f_non)) s_nil)))))
theorem ok_Reader_init (T : Tx K mg w) : FnOk P w K mg base CX0 1 T.a_Reader_init T.d_Reader_init ["self"] (spD ⟨K, T.cl⟩ F_Reader_init) := by
  refine ok_def (N := N_Reader_init) (m := m_Reader_init) (kp := [true]) T.f_Reader_init sc_Reader_init rfl (fun cdv A outer s H XE en ek hr => ?_)
  have hu := hr.units
  have nd := (sc_Reader_init).nd
  exact (s_cons (s_fld 3 T.cls_Reader T.na_Reader_kept (g_f (f_str [])) (p_v 0))
      (s_cons (s_fld 3 T.cls_Reader T.na_Reader_place (g_f f_int) (p_v 0))
      s_nil))
theorem ok_Reader_told (T : Tx K mg w) : FnOk P w K mg base CX0 2 T.a_Reader_told T.d_Reader_told ["self", "many"] (spD ⟨K, T.cl⟩ F_Reader_told) := by
  refine ok_def (N := N_Reader_told) (m := m_Reader_told) (kp := [true, true]) T.f_Reader_told sc_Reader_told rfl (fun cdv A outer s H XE en ek hr => ?_)
  have hu := hr.units
  have nd := (sc_Reader_told).nd
  exact (s_cons (s_set 2 nd (by rfl) (by first | exact Or.inl rfl | exact Or.inr rfl) (by rw [ek]; decide) (g_f (f_lst a_nil)))
      (s_cons (s_for [3] PassesOwn.never rfl (i_seq (r_f (f_sl (r_pl (p_fld 3 T.cls_Reader T.na_Reader_kept (p_v 0))) o_none (o_some (r_v 1))))) (g_name 3 nd (by rfl) (by first | exact Or.inl rfl | exact Or.inr rfl) (by rw [ek]; decide)) (s_cons (s_expr (g_app (p_v 2) (f_call (ok_sign_item T) (hr.mono (by decide)) (by rfl) T.g_sign_item T.f_sign_item.kp T.b_sign_item pass0 (a_cons (r_pl (p_fld 3 T.cls_Reader T.na_Reader_place (p_v 0))) (a_cons (r_v 3) a_nil)))))
      (s_cons (s_fld 3 T.cls_Reader T.na_Reader_place (g_f (f_bin opr_add op_addD (r_pl (p_fld 3 T.cls_Reader T.na_Reader_place (p_v 0))) (r_f f_int))) (p_v 0))
      s_nil)))
      (s_cons (s_fld 3 T.cls_Reader T.na_Reader_kept (g_f (f_sl (r_pl (p_fld 3 T.cls_Reader T.na_Reader_kept (p_v 0))) (o_some (r_v 1)) o_none)) (p_v 0))
      (s_cons (s_ret (g_mv (p_v 2))) s_nil))))
theorem ok_Reader_take (T : Tx K mg w) : FnOk P w K mg base CX0 3 T.a_Reader_take T.d_Reader_take ["self", "sign"] (spD ⟨K, T.cl⟩ F_Reader_take) := by
  refine ok_def (N := N_Reader_take) (m := m_Reader_take) (kp := [true, true]) T.f_Reader_take sc_Reader_take rfl (fun cdv A outer s H XE en ek hr => ?_)
  have hu := hr.units
  have nd := (sc_Reader_take).nd
  exact (s_cons (s_set 2 nd (by rfl) (by first | exact Or.inl rfl | exact Or.inr rfl) (by rw [ek]; decide) (g_f (f_call (ok_mark_item T) (hr.mono (by decide)) (by rfl) T.g_mark_item T.f_mark_item.kp T.b_mark_item pass0 (a_cons (r_pl (p_fld 3 T.cls_Reader T.na_Reader_place (p_v 0))) (a_cons (r_f (f_bin opr_add op_addD (r_pl (p_fld 3 T.cls_Reader T.na_Reader_kept (p_v 0))) (r_v 1))) a_nil)))))
      (s_cons (s_if (t_cmp opr_nis op_nisD (r_v 2) (r_f f_non) (nomark _)) (s_cons (s_fld 3 T.cls_Reader T.na_Reader_place (g_f (f_bin opr_add op_addD (r_f (f_bin opr_add op_addD (r_pl (p_fld 3 T.cls_Reader T.na_Reader_place (p_v 0))) (r_f (f_blt cr_len op_lenD (by rfl) T.z_len (by decide +kernel) (a_cons (r_pl (p_fld 3 T.cls_Reader T.na_Reader_kept (p_v 0))) a_nil))))) (r_f f_int))) (p_v 0))
      (s_cons (s_fld 3 T.cls_Reader T.na_Reader_kept (g_f (f_str [])) (p_v 0))
      (s_cons (s_ret (g_f (f_lst (a_cons (r_v 2) a_nil)))) s_nil))) s_nil)
      (s_cons (s_if (t_val (r_f (f_call (ok_begins_mark T) (hr.mono (by decide)) (by rfl) T.g_begins_mark T.f_begins_mark.kp T.b_begins_mark pass0 (a_cons (r_f (f_bin opr_add op_addD (r_pl (p_fld 3 T.cls_Reader T.na_Reader_kept (p_v 0))) (r_v 1))) a_nil)))) (s_cons (s_fld 3 T.cls_Reader T.na_Reader_kept (g_f (f_bin opr_add op_addD (r_pl (p_fld 3 T.cls_Reader T.na_Reader_kept (p_v 0))) (r_v 1))) (p_v 0))
      (s_cons (s_ret (g_f (f_lst a_nil))) s_nil)) s_nil)
      (s_cons (s_set 3 nd (by rfl) (by first | exact Or.inl rfl | exact Or.inr rfl) (by rw [ek]; decide) (g_meth 3 (p_v 0) T.cls_Reader T.me_Reader_told (ok_Reader_told T) (hr.mono (by decide)) T.b_Reader_told pass0 (a_cons (r_f (f_blt cr_len op_lenD (by rfl) T.z_len (by decide +kernel) (a_cons (r_pl (p_fld 3 T.cls_Reader T.na_Reader_kept (p_v 0))) a_nil))) a_nil)))
      (s_cons (s_fld 3 T.cls_Reader T.na_Reader_kept (g_r (r_v 1)) (p_v 0))
      (s_cons (s_if (tv_cmp (op_neD hu) op_neqD flat_ne (v_r (r_v 1)) (v_r (r_f (f_str [91]))) (nomark _)) (s_cons (s_expr (g_ext 3 (g_meth 3 (p_v 0) T.cls_Reader T.me_Reader_told (ok_Reader_told T) (hr.mono (by decide)) T.b_Reader_told pass0 (a_cons (r_f f_int) a_nil))))
      s_nil) s_nil)
      (s_kill [] (s_cons (s_ret (g_mv (p_v 3))) s_nil))))))))
theorem ok_Reader_feed (T : Tx K mg w) : FnOk P w K mg base CX0 4 T.a_Reader_feed T.d_Reader_feed ["self", "piece"] (spD ⟨K, T.cl⟩ F_Reader_feed) := by
  refine ok_def (N := N_Reader_feed) (m := m_Reader_feed) (kp := [true, true]) T.f_Reader_feed sc_Reader_feed rfl (fun cdv A outer s H XE en ek hr => ?_)
  have hu := hr.units
  have nd := (sc_Reader_feed).nd
  exact (s_cons (s_expr (g_f (f_call (ok_checked T) (hr.mono (by decide)) (by rfl) T.g_checked T.f_checked.kp T.b_checked pass0 (a_cons (r_v 1) a_nil))))
      (s_cons (s_set 2 nd (by rfl) (by first | exact Or.inl rfl | exact Or.inr rfl) (by rw [ek]; decide) (g_f (f_lst a_nil)))
      (s_cons (s_for [3] PassesOwn.never rfl (i_seq (r_v 1)) (g_name 3 nd (by rfl) (by first | exact Or.inl rfl | exact Or.inr rfl) (by rw [ek]; decide)) (s_cons (s_expr (g_ext 2 (g_meth 3 (p_v 0) T.cls_Reader T.me_Reader_take (ok_Reader_take T) (hr.mono (by decide)) T.b_Reader_take pass0 (a_cons (r_v 3) a_nil))))
      s_nil))
      (s_cons (s_ret (g_mv (p_v 2))) s_nil))))
theorem ok_Reader_finish (T : Tx K mg w) : FnOk P w K mg base CX0 3 T.a_Reader_finish T.d_Reader_finish ["self"] (spD ⟨K, T.cl⟩ F_Reader_finish) := by
  refine ok_def (N := N_Reader_finish) (m := m_Reader_finish) (kp := [true]) T.f_Reader_finish sc_Reader_finish rfl (fun cdv A outer s H XE en ek hr => ?_)
  have hu := hr.units
  have nd := (sc_Reader_finish).nd
  exact (s_cons (s_ret (g_meth 3 (p_v 0) T.cls_Reader T.me_Reader_told (ok_Reader_told T) (hr.mono (by decide)) T.b_Reader_told pass0 (a_cons (r_f (f_blt cr_len op_lenD (by rfl) T.z_len (by decide +kernel) (a_cons (r_pl (p_fld 3 T.cls_Reader T.na_Reader_kept (p_v 0))) a_nil))) a_nil))) s_nil)
theorem ok_items_of (T : Tx K mg w) : FnOk P w K mg base CX0 5 T.a_items_of T.d_items_of ["text"] (spD ⟨K, T.cl⟩ F_items_of) := by
  refine ok_def (N := N_items_of) (m := m_items_of) (kp := [true]) T.f_items_of sc_items_of rfl (fun cdv A outer s H XE en ek hr => ?_)
  have hu := hr.units
  have nd := (sc_items_of).nd
  exact (s_cons (s_set 1 nd (by rfl) (by first | exact Or.inl rfl | exact Or.inr rfl) (by rw [ek]; decide) (g_f (f_mk0 3 T.mk_Reader (ok_Reader_init T) (hr.mono (by decide)) (by rfl) T.gc_Reader T.b_Reader_init pass0)))
      (s_cons (s_seqI 2 (s_set 2 nd (by rfl) (by first | exact Or.inl rfl | exact Or.inr rfl) (by rw [ek]; decide) (g_meth 3 (p_v 1) T.cls_Reader T.me_Reader_feed (ok_Reader_feed T) (hr.mono (by decide)) T.b_Reader_feed pass0 (a_cons (r_v 0) a_nil))))
      (s_cons (s_ret (g_binV 2 opr_add op_addD (g_meth0 3 (p_v 1) T.cls_Reader T.me_Reader_finish (ok_Reader_finish T) (hr.mono (by decide)) T.b_Reader_finish pass0))) s_nil)))
theorem ok_checked_most (T : Tx K mg w) : FnOk P w K mg base CX0 1 T.a_checked_most T.d_checked_most ["most"] (spD ⟨K, T.cl⟩ F_checked_most) := by
  refine ok_def (N := N_checked_most) (m := m_checked_most) (kp := [true]) T.f_checked_most sc_checked_most rfl (fun cdv A outer s H XE en ek hr => ?_)
  have hu := hr.units
  have nd := (sc_checked_most).nd
  exact (s_cons (s_if (t_w (w_or (t_not (t_val (r_f (f_isi' (r_v 0) (pe_bltn (v := .ty "int") (u := .type "int") (by rfl) T.z_int (by decide +kernel) rfl) T.z_isinstance)))) (w_or (t_val (r_f (f_isi' (r_v 0) (pe_bltn (v := .ty "bool") (u := .type "bool") (by rfl) T.z_bool (by decide +kernel) rfl) T.z_isinstance))) (w_or1 (t_not (t_ch opr_le op_cmpD opr_le op_cmpD (r_f f_int) (r_v 0) (r_f (f_glI 200 T.k_MOST)))))))) ss_never s_nil)
      s_nil)
theorem ok_Maker_init (T : Tx K mg w) : FnOk P w K mg base CX0 2 T.a_Maker_init T.d_Maker_init ["self", "most"] (spD ⟨K, T.cl⟩ F_Maker_init) := by
  refine ok_def (N := N_Maker_init) (m := m_Maker_init) (kp := [true, true]) T.f_Maker_init sc_Maker_init rfl (fun cdv A outer s H XE en ek hr => ?_)
  have hu := hr.units
  have nd := (sc_Maker_init).nd
  exact (s_cons (s_expr (g_f (f_call (ok_checked_most T) (hr.mono (by decide)) (by rfl) T.g_checked_most T.f_checked_most.kp T.b_checked_most pass0 (a_cons (r_v 1) a_nil))))
      (s_cons (s_fld 4 T.cls_Maker T.na_Maker_most (g_r (r_v 1)) (p_v 0))
      (s_cons (s_fld 4 T.cls_Maker T.na_Maker_row (g_f (f_lst a_nil)) (p_v 0))
      (s_cons (s_fld 4 T.cls_Maker T.na_Maker_ink (g_f (f_glS [46] T.k_PLAIN)) (p_v 0))
      (s_cons (s_fld 4 T.cls_Maker T.na_Maker_ground (g_f (f_glS [46] T.k_PLAIN)) (p_v 0))
      (s_cons (s_fld 4 T.cls_Maker T.na_Maker_stale (g_f f_bl) (p_v 0))
      (s_cons (s_fld 4 T.cls_Maker T.na_Maker_more (g_f f_bl) (p_v 0))
      s_nil)))))))
theorem ok_Maker_open_letters (T : Tx K mg w) : FnOk P w K mg base CX0 1 T.a_Maker_open_letters T.d_Maker_open_letters ["self"] (spD ⟨K, T.cl⟩ F_Maker_open_letters) := by
  refine ok_def (N := N_Maker_open_letters) (m := m_Maker_open_letters) (kp := [true]) T.f_Maker_open_letters sc_Maker_open_letters rfl (fun cdv A outer s H XE en ek hr => ?_)
  have hu := hr.units
  have nd := (sc_Maker_open_letters).nd
  exact (s_cons (s_ret (g_f (f_bty call_list_of op_listD (by rfl) T.z_list (by decide +kernel) (a_cons (r_pl (p_fld 4 T.cls_Maker T.na_Maker_row (p_v 0))) a_nil)))) s_nil)
theorem ok_Maker_make_plain (T : Tx K mg w) : FnOk P w K mg base CX0 1 T.a_Maker_make_plain T.d_Maker_make_plain ["self"] (spD ⟨K, T.cl⟩ F_Maker_make_plain) := by
  refine ok_def (N := N_Maker_make_plain) (m := m_Maker_make_plain) (kp := [true]) T.f_Maker_make_plain sc_Maker_make_plain rfl (fun cdv A outer s H XE en ek hr => ?_)
  have hu := hr.units
  have nd := (sc_Maker_make_plain).nd
  exact (s_cons (s_fld 4 T.cls_Maker T.na_Maker_ink (g_f (f_glS [46] T.k_PLAIN)) (p_v 0))
      (s_cons (s_fld 4 T.cls_Maker T.na_Maker_ground (g_f (f_glS [46] T.k_PLAIN)) (p_v 0))
      s_nil))
theorem ok_Maker_tell_part (T : Tx K mg w) : FnOk P w K mg base CX0 1 T.a_Maker_tell_part T.d_Maker_tell_part ["self", "word"] (spD ⟨K, T.cl⟩ F_Maker_tell_part) := by
  refine ok_def (N := N_Maker_tell_part) (m := m_Maker_tell_part) (kp := [true, true]) T.f_Maker_tell_part sc_Maker_tell_part rfl (fun cdv A outer s H XE en ek hr => ?_)
  have hu := hr.units
  have nd := (sc_Maker_tell_part).nd
  exact (s_cons (s_set 2 nd (by rfl) (by first | exact Or.inl rfl | exact Or.inr rfl) (by rw [ek]; decide) (g_tupO (ao_cons (g_mv (p_fld 4 T.cls_Maker T.na_Maker_row (p_v 0))) (ao_cons (g_r (r_v 1)) ao_nil))))
      (s_cons (s_fld 4 T.cls_Maker T.na_Maker_row (g_f (f_lst a_nil)) (p_v 0))
      (s_cons (s_fld 4 T.cls_Maker T.na_Maker_stale (g_f f_bl) (p_v 0))
      (s_cons (s_fld 4 T.cls_Maker T.na_Maker_more (g_f (v_cmp (op_eqD hu) op_eqqD flat_eq (v_r (r_v 1)) (v_r (r_f (f_glS [109, 111, 114, 101] T.k_MORE))) (nomark _))) (p_v 0))
      (s_cons (s_ret (g_lstO (ao_cons (g_mv (p_v 2)) ao_nil))) s_nil)))))
theorem ok_Maker_put_sign (T : Tx K mg w) : FnOk P w K mg base CX0 2 T.a_Maker_put_sign T.d_Maker_put_sign ["self", "sign", "place"] (spD ⟨K, T.cl⟩ F_Maker_put_sign) := by
  refine ok_def (N := N_Maker_put_sign) (m := m_Maker_put_sign) (kp := [true, true, true]) T.f_Maker_put_sign sc_Maker_put_sign rfl (fun cdv A outer s H XE en ek hr => ?_)
  have hu := hr.units
  have nd := (sc_Maker_put_sign).nd
  exact (s_cons (s_set 3 nd (by rfl) (by first | exact Or.inl rfl | exact Or.inr rfl) (by rw [ek]; decide) (g_f (f_lst a_nil)))
      (s_cons (s_if (tv_cmp (op_eqD hu) op_eqqD flat_eq (v_r (r_f (f_blt cr_len op_lenD (by rfl) T.z_len (by decide +kernel) (a_cons (r_pl (p_fld 4 T.cls_Maker T.na_Maker_row (p_v 0))) a_nil)))) (v_r (r_pl (p_fld 4 T.cls_Maker T.na_Maker_most (p_v 0)))) (nomark _)) (s_cons (s_set 3 nd (by rfl) (by first | exact Or.inl rfl | exact Or.inr rfl) (by rw [ek]; decide) (g_meth 4 (p_v 0) T.cls_Maker T.me_Maker_tell_part (ok_Maker_tell_part T) (hr.mono (by decide)) T.b_Maker_tell_part pass0 (a_cons (r_f (f_glS [109, 111, 114, 101] T.k_MORE)) a_nil)))
      s_nil) s_nil)
      (s_kill [] (s_cons (s_expr (g_app (p_fld 4 T.cls_Maker T.na_Maker_row (p_v 0)) (f_tup (a_cons (r_v 1) (a_cons (r_pl (p_fld 4 T.cls_Maker T.na_Maker_ink (p_v 0))) (a_cons (r_pl (p_fld 4 T.cls_Maker T.na_Maker_ground (p_v 0))) (a_cons (r_v 2) a_nil)))))))
      (s_cons (s_ret (g_mv (p_v 3))) s_nil)))))
theorem ok_Maker_put (T : Tx K mg w) : FnOk P w K mg base CX0 3 T.a_Maker_put T.d_Maker_put ["self", "item"] (spD ⟨K, T.cl⟩ F_Maker_put) := by
  refine ok_def (N := N_Maker_put) (m := m_Maker_put) (kp := [true, true]) T.f_Maker_put sc_Maker_put rfl (fun cdv A outer s H XE en ek hr => ?_)
  have hu := hr.units
  have nd := (sc_Maker_put).nd
  exact (s_cons (s_asg (g_r (r_v 1)) (g_tup rfl (gs_cons (g_name 2 nd (by rfl) (by first | exact Or.inl rfl | exact Or.inr rfl) (by rw [ek]; decide)) (gs_cons (g_name 3 nd (by rfl) (by first | exact Or.inl rfl | exact Or.inr rfl) (by rw [ek]; decide)) (gs_cons (g_name 4 nd (by rfl) (by first | exact Or.inl rfl | exact Or.inr rfl) (by rw [ek]; decide)) gs_nil))) (hlen := len_cons (len_cons (len_cons (fun _ _ _ h => len_nil h))))))
      (s_cons (s_if (tv_cmp (op_eqD hu) op_eqqD flat_eq (v_r (r_v 3)) (v_r (r_f (f_str [101, 110, 100]))) (nomark _)) (s_cons (s_expr (g_meth0 4 (p_v 0) T.cls_Maker T.me_Maker_make_plain (ok_Maker_make_plain T) (hr.mono (by decide)) T.b_Maker_make_plain pass0))
      (s_cons (s_ret (g_meth 4 (p_v 0) T.cls_Maker T.me_Maker_tell_part (ok_Maker_tell_part T) (hr.mono (by decide)) T.b_Maker_tell_part pass0 (a_cons (r_f (f_glS [119, 104, 111, 108, 101] T.k_WHOLE)) a_nil))) s_nil)) s_nil)
      (s_cons (s_if (tv_cmp (op_eqD hu) op_eqqD flat_eq (v_r (r_v 3)) (v_r (r_f (f_str [97, 110, 101, 119]))) (nomark _)) (s_cons (s_expr (g_meth0 4 (p_v 0) T.cls_Maker T.me_Maker_make_plain (ok_Maker_make_plain T) (hr.mono (by decide)) T.b_Maker_make_plain pass0))
      (s_cons (s_fld 4 T.cls_Maker T.na_Maker_stale (g_f f_bl) (p_v 0))
      (s_cons (s_ret (g_f (f_lst a_nil))) s_nil))) s_nil)
      (s_cons (s_if (t_val (r_pl (p_fld 4 T.cls_Maker T.na_Maker_stale (p_v 0)))) (s_cons (s_fld 4 T.cls_Maker T.na_Maker_row (g_f (f_lst a_nil)) (p_v 0))
      (s_cons (s_fld 4 T.cls_Maker T.na_Maker_stale (g_f f_bl) (p_v 0))
      s_nil)) s_nil)
      (s_kill [] (s_cons (s_if (tv_cmp (op_eqD hu) op_eqqD flat_eq (v_r (r_v 3)) (v_r (r_f (f_str [115, 105, 103, 110]))) (nomark _)) (s_cons (s_ret (g_meth 4 (p_v 0) T.cls_Maker T.me_Maker_put_sign (ok_Maker_put_sign T) (hr.mono (by decide)) T.b_Maker_put_sign pass0 (a_cons (r_v 4) (a_cons (r_v 2) a_nil)))) s_nil) s_nil)
      (s_cons (s_if (tv_cmp (op_eqD hu) op_eqqD flat_eq (v_r (r_v 3)) (v_r (r_f (f_str [105, 110, 107]))) (nomark _)) (s_cons (s_fld 4 T.cls_Maker T.na_Maker_ink (g_r (r_v 4)) (p_v 0))
      s_nil) (s_cons (s_if (tv_cmp (op_eqD hu) op_eqqD flat_eq (v_r (r_v 3)) (v_r (r_f (f_str [103, 114, 111, 117, 110, 100]))) (nomark _)) (s_cons (s_fld 4 T.cls_Maker T.na_Maker_ground (g_r (r_v 4)) (p_v 0))
      s_nil) (s_cons (s_expr (g_meth0 4 (p_v 0) T.cls_Maker T.me_Maker_make_plain (ok_Maker_make_plain T) (hr.mono (by decide)) T.b_Maker_make_plain pass0))
      s_nil))
      (s_kill [] s_nil)))
      (s_kill [] (s_cons (s_ret (g_f (f_lst a_nil))) s_nil)))))))))
theorem ok_rows_of (T : Tx K mg w) : FnOk P w K mg base CX0 6 T.a_rows_of T.d_rows_of ["text", "most"] (spD ⟨K, T.cl⟩ F_rows_of) := by
  refine ok_def (N := N_rows_of) (m := m_rows_of) (kp := [true, true]) T.f_rows_of sc_rows_of rfl (fun cdv A outer s H XE en ek hr => ?_)
  have hu := hr.units
  have nd := (sc_rows_of).nd
  exact (s_cons (s_set 2 nd (by rfl) (by first | exact Or.inl rfl | exact Or.inr rfl) (by rw [ek]; decide) (g_f (f_mk 4 T.mk_Maker (ok_Maker_init T) (hr.mono (by decide)) (by rfl) T.gc_Maker T.b_Maker_init pass0 (a_cons (r_v 1) a_nil))))
      (s_cons (s_set 3 nd (by rfl) (by first | exact Or.inl rfl | exact Or.inr rfl) (by rw [ek]; decide) (g_f (f_lst a_nil)))
      (s_cons (s_for [4] PassesOwn.never rfl (i_seq (r_f (f_cold (f_call (ok_items_of T) (hr.mono (by decide)) (by rfl) T.g_items_of T.f_items_of.kp T.b_items_of pass0 (a_cons (r_v 0) a_nil))))) (g_name 4 nd (by rfl) (by first | exact Or.inl rfl | exact Or.inr rfl) (by rw [ek]; decide)) (s_cons (s_expr (g_extO 3 (g_meth 4 (p_v 2) T.cls_Maker T.me_Maker_put (ok_Maker_put T) (hr.mono (by decide)) T.b_Maker_put pass0 (a_cons (r_v 4) a_nil))))
      s_nil))
      (s_cons (s_ret (g_tupO (ao_cons (g_mv (p_v 3)) (ao_cons (g_meth0 4 (p_v 2) T.cls_Maker T.me_Maker_open_letters (ok_Maker_open_letters T) (hr.mono (by decide)) T.b_Maker_open_letters pass0) ao_nil)))) s_nil))))
theorem ok_lw_cell (T : Tx K mg w) : FnOk P w K mg base CX0 1 T.a_lw_cell T.d_lw_cell ["_law_script", "_law_k"] (spD ⟨K, T.cl⟩ F_lw_cell) := by
  refine ok_def (N := N_lw_cell) (m := m_lw_cell) (kp := [true, true]) T.f_lw_cell sc_lw_cell rfl (fun cdv A outer s H XE en ek hr => ?_)
  have hu := hr.units
  have nd := (sc_lw_cell).nd
  exact (s_cons (s_if (t_cmp opr_lt op_cmpD (r_v 1) (r_f (f_blt cr_len op_lenD (by rfl) T.z_len (by decide +kernel) (a_cons (r_v 0) a_nil))) (nomark _)) (s_cons (s_ret (g_r (r_ix hu (r_v 0) (r_v 1)))) s_nil) s_nil)
      (s_cons (s_ret (g_f f_int)) s_nil))
theorem ok_lw_mix (T : Tx K mg w) : FnOk P w K mg base CX0 1 T.a_lw_mix T.d_lw_mix ["_law_cell_here", "_law_k"] (spD ⟨K, T.cl⟩ F_lw_mix) := by
  refine ok_def (N := N_lw_mix) (m := m_lw_mix) (kp := [true, true]) T.f_lw_mix sc_lw_mix rfl (fun cdv A outer s H XE en ek hr => ?_)
  have hu := hr.units
  have nd := (sc_lw_mix).nd
  exact (s_cons (s_if (t_cmp opr_gt op_cmpD (r_v 0) (r_f (f_bin op_pow op_powD (r_f f_int) (r_f f_int))) (nomark _)) (s_cons (s_set 2 nd (by rfl) (by first | exact Or.inl rfl | exact Or.inr rfl) (by rw [ek]; decide) (g_r (r_v 0)))
      (s_cons (s_for [3] PassesOwn.never rfl (i_rng1 (by rfl) T.z_range (r_v 1)) (g_name 3 nd (by rfl) (by first | exact Or.inl rfl | exact Or.inr rfl) (by rw [ek]; decide)) (s_cons (s_set 2 nd (by rfl) (by first | exact Or.inl rfl | exact Or.inr rfl) (by rw [ek]; decide) (g_f (f_bin op_fdivW op_fdivD (r_v 2) (r_f (f_bin op_pow op_powD (r_f f_int) (r_f f_int))))))
      s_nil))
      (s_cons (s_ret (g_f (f_bin op_mod op_modD (r_v 2) (r_f (f_bin op_pow op_powD (r_f f_int) (r_f f_int)))))) s_nil))) s_nil)
      (s_cons (s_set 4 nd (by rfl) (by first | exact Or.inl rfl | exact Or.inr rfl) (by rw [ek]; decide) (g_f (f_bin opr_add op_addD (r_f (f_bin op_mod op_modD (r_v 0) (r_f f_int))) (r_f f_int))))
      (s_cons (s_for [3] PassesOwn.never rfl (i_rng1 (by rfl) T.z_range (r_f (f_bin opr_add op_addD (r_v 1) (r_f f_int)))) (g_name 3 nd (by rfl) (by first | exact Or.inl rfl | exact Or.inr rfl) (by rw [ek]; decide)) (s_cons (s_set 4 nd (by rfl) (by first | exact Or.inl rfl | exact Or.inr rfl) (by rw [ek]; decide) (g_f (f_bin op_mod op_modD (r_f (f_bin opr_add op_addD (r_f (f_bin opr_mul op_mulD (r_v 4) (r_f f_int))) (r_f f_int))) (r_f f_int))))
      s_nil))
      (s_cons (s_ret (g_f (f_bin op_fdivW op_fdivD (r_f (f_bin op_mod op_modD (r_f (f_bin opr_mul op_mulD (r_v 4) (r_v 4))) (r_f f_int))) (r_f f_int)))) s_nil))))
theorem ok_lw_signs (T : Tx K mg w) : FnOk P w K mg base CX0 1 T.a_lw_signs T.d_lw_signs [] (spD ⟨K, T.cl⟩ F_lw_signs) := by
  refine ok_def (N := N_lw_signs) (m := m_lw_signs) (kp := []) T.f_lw_signs sc_lw_signs rfl (fun cdv A outer s H XE en ek hr => ?_)
  have hu := hr.units
  have nd := (sc_lw_signs).nd
  exact (s_cons (s_set 0 nd (by rfl) (by first | exact Or.inl rfl | exact Or.inr rfl) (by rw [ek]; decide) (g_f (f_str [32, 33, 34, 35, 36, 38, 39, 40, 41, 42, 43, 44, 45, 46, 47, 48, 49, 50, 51, 52, 53, 54, 55, 56, 57, 58, 59, 60, 61, 62, 63, 64, 65, 66, 67, 68, 69, 70, 71, 72, 73, 74, 75, 76, 77, 78, 79, 80, 81, 82, 83, 84, 85, 86, 87, 88, 89, 90])))
      (s_cons (s_ret (g_f (f_bin opr_add op_addD (r_v 0) (r_f (f_str [91, 92, 93, 94, 95, 96, 97, 98, 99, 100, 101, 102, 103, 104, 105, 106, 107, 108, 109, 110, 111, 112, 113, 114, 115, 116, 117, 118, 119, 120, 121, 122, 123, 124, 125]))))) s_nil))
theorem ok_lw_item (T : Tx K mg w) : FnOk P w K mg base CX0 1 T.a_lw_item T.d_lw_item ["_law_text", "_law_at"] (spD ⟨K, T.cl⟩ F_lw_item) := by
  refine ok_def (N := N_lw_item) (m := m_lw_item) (kp := [true, true]) T.f_lw_item sc_lw_item rfl (fun cdv A outer s H XE en ek hr => ?_)
  have hu := hr.units
  have nd := (sc_lw_item).nd
  exact (s_cons (s_set 2 nd (by rfl) (by first | exact Or.inl rfl | exact Or.inr rfl) (by rw [ek]; decide) (g_f (f_str [97, 98, 99, 100, 101, 102, 103, 104, 46])))
      (s_cons (s_set 3 nd (by rfl) (by first | exact Or.inl rfl | exact Or.inr rfl) (by rw [ek]; decide) (g_f (f_sl (r_v 0) (o_some (r_v 1)) (o_some (r_f (f_bin opr_add op_addD (r_v 1) (r_f f_int)))))))
      (s_cons (s_if (tv_cmp (op_eqD hu) op_eqqD flat_eq (v_r (r_ix hu (r_v 3) (r_f f_int))) (v_r (r_f (f_str [10]))) (nomark _)) (s_cons (s_ret (g_f (f_tup (a_cons (r_f (f_tup (a_cons (r_v 1) (a_cons (r_f (f_str [101, 110, 100])) (a_cons (r_f (f_str [])) a_nil))))) (a_cons (r_f f_int) a_nil))))) s_nil) s_nil)
      (s_cons (s_if (tv_cmp (op_eqD hu) op_eqqD flat_eq (v_r (r_ix hu (r_v 3) (r_f f_int))) (v_r (r_f (f_str [9]))) (nomark _)) (s_cons (s_ret (g_f (f_tup (a_cons (r_f (f_tup (a_cons (r_v 1) (a_cons (r_f (f_str [97, 110, 101, 119])) (a_cons (r_f (f_str [])) a_nil))))) (a_cons (r_f f_int) a_nil))))) s_nil) s_nil)
      (s_cons (s_if (tv_cmp (op_eqD hu) op_eqqD flat_eq (v_r (r_f (f_sl (r_v 3) o_none (o_some (r_f f_int))))) (v_r (r_f (f_str [91, 93]))) (nomark _)) (s_cons (s_ret (g_f (f_tup (a_cons (r_f (f_tup (a_cons (r_v 1) (a_cons (r_f (f_str [112, 108, 97, 105, 110])) (a_cons (r_f (f_str [])) a_nil))))) (a_cons (r_f f_int) a_nil))))) s_nil) s_nil)
      (s_cons (s_if (tv_cmp (op_eqD hu) op_eqqD flat_eq (v_r (r_f (f_sl (r_v 3) o_none (o_some (r_f f_int))))) (v_r (r_f (f_str [91, 91]))) (nomark _)) (s_cons (s_ret (g_f (f_tup (a_cons (r_f (f_tup (a_cons (r_v 1) (a_cons (r_f (f_str [115, 105, 103, 110])) (a_cons (r_f (f_str [91])) a_nil))))) (a_cons (r_f f_int) a_nil))))) s_nil) s_nil)
      (s_cons (s_if (t_w (w_and (t_cmp opr_gt op_cmpD (r_f (f_blt cr_len op_lenD (by rfl) T.z_len (by decide +kernel) (a_cons (r_v 3) a_nil))) (r_f f_int) (nomark _)) (w_and (tv_cmp (op_eqD hu) op_eqqD flat_eq (v_r (r_ix hu (r_v 3) (r_f f_int))) (v_r (r_f (f_str [91]))) (nomark _)) (w_and (t_in hu (r_ix hu (r_v 3) (r_f f_int)) (r_v 2)) (w_and1 (tv_cmp (op_eqD hu) op_eqqD flat_eq (v_r (r_ix hu (r_v 3) (r_f f_int))) (v_r (r_f (f_str [93]))) (nomark _))))))) (s_cons (s_ret (g_f (f_tup (a_cons (r_f (f_tup (a_cons (r_v 1) (a_cons (r_f (f_str [105, 110, 107])) (a_cons (r_ix hu (r_v 3) (r_f f_int)) a_nil))))) (a_cons (r_f f_int) a_nil))))) s_nil) s_nil)
      (s_cons (s_if (t_w (w_and (tv_cmp (op_eqD hu) op_eqqD flat_eq (v_r (r_f (f_blt cr_len op_lenD (by rfl) T.z_len (by decide +kernel) (a_cons (r_v 3) a_nil)))) (v_r (r_f f_int)) (nomark _)) (w_and (tv_cmp (op_eqD hu) op_eqqD flat_eq (v_r (r_f (f_sl (r_v 3) o_none (o_some (r_f f_int))))) (v_r (r_f (f_str [91, 47]))) (nomark _)) (w_and (t_in hu (r_ix hu (r_v 3) (r_f f_int)) (r_v 2)) (w_and1 (tv_cmp (op_eqD hu) op_eqqD flat_eq (v_r (r_ix hu (r_v 3) (r_f f_int))) (v_r (r_f (f_str [93]))) (nomark _))))))) (s_cons (s_ret (g_f (f_tup (a_cons (r_f (f_tup (a_cons (r_v 1) (a_cons (r_f (f_str [103, 114, 111, 117, 110, 100])) (a_cons (r_ix hu (r_v 3) (r_f f_int)) a_nil))))) (a_cons (r_f f_int) a_nil))))) s_nil) s_nil)
      (s_cons (s_ret (g_f (f_tup (a_cons (r_f (f_tup (a_cons (r_v 1) (a_cons (r_f (f_str [115, 105, 103, 110])) (a_cons (r_ix hu (r_v 3) (r_f f_int)) a_nil))))) (a_cons (r_f f_int) a_nil))))) s_nil)))))))))
theorem ok_lw_items (T : Tx K mg w) : FnOk P w K mg base CX0 2 T.a_lw_items T.d_lw_items ["_law_text"] (spD ⟨K, T.cl⟩ F_lw_items) := by
  refine ok_def (N := N_lw_items) (m := m_lw_items) (kp := [true]) T.f_lw_items sc_lw_items rfl (fun cdv A outer s H XE en ek hr => ?_)
  have hu := hr.units
  have nd := (sc_lw_items).nd
  exact (s_cons (s_set 1 nd (by rfl) (by first | exact Or.inl rfl | exact Or.inr rfl) (by rw [ek]; decide) (g_f (f_lst a_nil)))
      (s_cons (s_set 2 nd (by rfl) (by first | exact Or.inl rfl | exact Or.inr rfl) (by rw [ek]; decide) (g_f f_int))
      (s_cons (s_while 5000 [3, 4] PassesOwn.never (t_cmp opr_lt op_cmpD (r_v 2) (r_f (f_blt cr_len op_lenD (by rfl) T.z_len (by decide +kernel) (a_cons (r_v 0) a_nil))) (nomark _)) (s_cons (s_asg (g_f (f_call (ok_lw_item T) (hr.mono (by decide)) (by rfl) T.g_lw_item T.f_lw_item.kp T.b_lw_item pass0 (a_cons (r_v 0) (a_cons (r_v 2) a_nil)))) (g_tup rfl (gs_cons (g_name 3 nd (by rfl) (by first | exact Or.inl rfl | exact Or.inr rfl) (by rw [ek]; decide)) (gs_cons (g_name 4 nd (by rfl) (by first | exact Or.inl rfl | exact Or.inr rfl) (by rw [ek]; decide)) gs_nil)) (hlen := len_cons (len_cons (fun _ _ _ h => len_nil h)))))
      (s_cons (s_expr (g_app (p_v 1) (f_fr (r_v 3))))
      (s_cons (s_set 2 nd (by rfl) (by first | exact Or.inl rfl | exact Or.inr rfl) (by rw [ek]; decide) (g_f (f_bin opr_add op_addD (r_v 2) (r_v 4))))
      s_nil))))
      (s_cons (s_ret (g_mv (p_v 1))) s_nil))))
theorem ok_lw_parts (T : Tx K mg w) : FnOk P w K mg base CX0 1 T.a_lw_parts T.d_lw_parts ["_law_items_here", "_law_most"] (spD ⟨K, T.cl⟩ F_lw_parts) := by
  refine ok_def (N := N_lw_parts) (m := m_lw_parts) (kp := [true, true]) T.f_lw_parts sc_lw_parts rfl (fun cdv A outer s H XE en ek hr => ?_)
  have hu := hr.units
  have nd := (sc_lw_parts).nd
  exact (s_cons (s_set 2 nd (by rfl) (by first | exact Or.inl rfl | exact Or.inr rfl) (by rw [ek]; decide) (g_f (f_lst a_nil)))
      (s_cons (s_set 3 nd (by rfl) (by first | exact Or.inl rfl | exact Or.inr rfl) (by rw [ek]; decide) (g_f (f_cold (f_lst a_nil))))
      (s_cons (s_set 4 nd (by rfl) (by first | exact Or.inl rfl | exact Or.inr rfl) (by rw [ek]; decide) (g_f f_bl))
      (s_cons (s_set 5 nd (by rfl) (by first | exact Or.inl rfl | exact Or.inr rfl) (by rw [ek]; decide) (g_f (f_lst (a_cons (r_f (f_str [46])) (a_cons (r_f (f_str [46])) a_nil)))))
      (s_cons (s_for [6, 7, 8] PassesOwn.never rfl (i_seq (r_v 0)) (g_tup rfl (gs_cons (g_name 6 nd (by rfl) (by first | exact Or.inl rfl | exact Or.inr rfl) (by rw [ek]; decide)) (gs_cons (g_name 7 nd (by rfl) (by first | exact Or.inl rfl | exact Or.inr rfl) (by rw [ek]; decide)) (gs_cons (g_name 8 nd (by rfl) (by first | exact Or.inl rfl | exact Or.inr rfl) (by rw [ek]; decide)) gs_nil))) (hlen := len_cons (len_cons (len_cons (fun _ _ _ h => len_nil h))))) (s_cons (s_if (t_w (w_and (t_val (r_v 4)) (w_and (tv_cmp (op_neD hu) op_neqD flat_ne (v_r (r_v 7)) (v_r (r_f (f_str [101, 110, 100]))) (nomark _)) (w_and1 (tv_cmp (op_neD hu) op_neqD flat_ne (v_r (r_v 7)) (v_r (r_f (f_str [97, 110, 101, 119]))) (nomark _)))))) (s_cons (s_set 3 nd (by rfl) (by first | exact Or.inl rfl | exact Or.inr rfl) (by rw [ek]; decide) (g_f (f_cold (f_lst a_nil))))
      (s_cons (s_set 4 nd (by rfl) (by first | exact Or.inl rfl | exact Or.inr rfl) (by rw [ek]; decide) (g_f f_bl))
      s_nil)) s_nil)
      (s_kill [] (s_cons (s_if (tv_cmp (op_eqD hu) op_eqqD flat_eq (v_r (r_v 7)) (v_r (r_f (f_str [115, 105, 103, 110]))) (nomark _)) (s_cons (s_if (tv_cmp (op_eqD hu) op_eqqD flat_eq (v_r (r_f (f_blt cr_len op_lenD (by rfl) T.z_len (by decide +kernel) (a_cons (r_v 3) a_nil)))) (v_r (r_v 1)) (nomark _)) (s_cons (s_expr (g_app (p_v 2) (f_tup (a_cons (r_v 3) (a_cons (r_f (f_str [109, 111, 114, 101])) a_nil)))))
      (s_cons (s_set 3 nd (by rfl) (by first | exact Or.inl rfl | exact Or.inr rfl) (by rw [ek]; decide) (g_f (f_cold (f_lst a_nil))))
      s_nil)) s_nil)
      (s_kill [] (s_cons (s_set 3 nd (by rfl) (by first | exact Or.inl rfl | exact Or.inr rfl) (by rw [ek]; decide) (g_f (f_cold (f_bin opr_add op_addD (r_v 3) (r_f (f_lst (a_cons (r_f (f_tup (a_cons (r_v 8) (a_cons (r_ix hu (r_v 5) (r_f f_int)) (a_cons (r_ix hu (r_v 5) (r_f f_int)) (a_cons (r_v 6) a_nil)))))) a_nil)))))))
      s_nil))) (s_cons (s_if (tv_cmp (op_eqD hu) op_eqqD flat_eq (v_r (r_v 7)) (v_r (r_f (f_str [105, 110, 107]))) (nomark _)) (s_cons (s_store (g_r (r_v 8)) (p_v 5) (r_f f_int))
      s_nil) (s_cons (s_if (tv_cmp (op_eqD hu) op_eqqD flat_eq (v_r (r_v 7)) (v_r (r_f (f_str [103, 114, 111, 117, 110, 100]))) (nomark _)) (s_cons (s_store (g_r (r_v 8)) (p_v 5) (r_f f_int))
      s_nil) (s_cons (s_set 5 nd (by rfl) (by first | exact Or.inl rfl | exact Or.inr rfl) (by rw [ek]; decide) (g_f (f_lst (a_cons (r_f (f_str [46])) (a_cons (r_f (f_str [46])) a_nil)))))
      s_nil))
      (s_kill [] s_nil)))
      (s_kill [] s_nil)))
      (s_kill [] (s_cons (s_if (tv_cmp (op_eqD hu) op_eqqD flat_eq (v_r (r_v 7)) (v_r (r_f (f_str [97, 110, 101, 119]))) (nomark _)) (s_cons (s_set 4 nd (by rfl) (by first | exact Or.inl rfl | exact Or.inr rfl) (by rw [ek]; decide) (g_f f_bl))
      s_nil) s_nil)
      (s_kill [] (s_cons (s_if (tv_cmp (op_eqD hu) op_eqqD flat_eq (v_r (r_v 7)) (v_r (r_f (f_str [101, 110, 100]))) (nomark _)) (s_cons (s_expr (g_app (p_v 2) (f_tup (a_cons (r_v 3) (a_cons (r_f (f_str [119, 104, 111, 108, 101])) a_nil)))))
      (s_cons (s_set 3 nd (by rfl) (by first | exact Or.inl rfl | exact Or.inr rfl) (by rw [ek]; decide) (g_f (f_cold (f_lst a_nil))))
      (s_cons (s_set 4 nd (by rfl) (by first | exact Or.inl rfl | exact Or.inr rfl) (by rw [ek]; decide) (g_f f_bl))
      s_nil))) s_nil)
      (s_kill [] s_nil)))))))))
      (s_frz 2 (s_cons (s_ret (g_f (f_tup (a_cons (r_v 2) (a_cons (r_v 3) a_nil))))) s_nil)))))))
theorem ok_lw_whole (T : Tx K mg w) : FnOk P w K mg base CX0 1 T.a_lw_whole T.d_lw_whole ["_law_found"] (spD ⟨K, T.cl⟩ F_lw_whole) := by
  refine ok_def (N := N_lw_whole) (m := m_lw_whole) (kp := [true]) T.f_lw_whole sc_lw_whole rfl (fun cdv A outer s H XE en ek hr => ?_)
  have hu := hr.units
  have nd := (sc_lw_whole).nd
  exact (s_cons (s_ret (g_f (f_and (r_f (f_isi' (r_v 0) (pe_bltn (v := .ty "int") (u := .type "int") (by rfl) T.z_int (by decide +kernel) rfl) T.z_isinstance)) (f_one (f_not (r_f (f_isi' (r_v 0) (pe_bltn (v := .ty "bool") (u := .type "bool") (by rfl) T.z_bool (by decide +kernel) rfl) T.z_isinstance))))))) s_nil)
theorem ok_lw_letters_right (T : Tx K mg w) : FnOk P w K mg base CX0 2 T.a_lw_letters_right T.d_lw_letters_right ["_law_found", "_law_due"] (spD ⟨K, T.cl⟩ F_lw_letters_right) := by
  refine ok_def (N := N_lw_letters_right) (m := m_lw_letters_right) (kp := [true, true]) T.f_lw_letters_right sc_lw_letters_right rfl (fun cdv A outer s H XE en ek hr => ?_)
  have hu := hr.units
  have nd := (sc_lw_letters_right).nd
  exact (s_cons (s_if (t_w (w_or (t_not (t_val (r_f (f_isi' (r_v 0) (pe_bltn (v := .ty "list") (u := .type "list") (by rfl) T.z_list (by decide +kernel) rfl) T.z_isinstance)))) (w_or1 (tv_cmp (op_neD hu) op_neqD flat_ne (v_r (r_f (f_blt cr_len op_lenD (by rfl) T.z_len (by decide +kernel) (a_cons (r_v 0) a_nil)))) (v_r (r_f (f_blt cr_len op_lenD (by rfl) T.z_len (by decide +kernel) (a_cons (r_v 1) a_nil)))) (nomark _))))) (s_cons (s_ret (g_f f_bl)) s_nil) s_nil)
      (s_cons (s_for [2] PassesOwn.never rfl (i_seq (r_v 0)) (g_name 2 nd (by rfl) (by first | exact Or.inl rfl | exact Or.inr rfl) (by rw [ek]; decide)) (s_cons (s_if (t_w (w_or (t_not (t_val (r_f (f_isi' (r_v 2) (pe_bltn (v := .ty "tuple") (u := .type "tuple") (by rfl) T.z_tuple (by decide +kernel) rfl) T.z_isinstance)))) (w_or (tv_cmp (op_neD hu) op_neqD flat_ne (v_r (r_f (f_blt cr_len op_lenD (by rfl) T.z_len (by decide +kernel) (a_cons (r_v 2) a_nil)))) (v_r (r_f f_int)) (nomark _)) (w_or1 (t_not (t_val (r_f (f_call (ok_lw_whole T) (hr.mono (by decide)) (by rfl) T.g_lw_whole T.f_lw_whole.kp T.b_lw_whole pass0 (a_cons (r_ix hu (r_v 2) (r_f f_int)) a_nil))))))))) (s_cons (s_ret (g_f f_bl)) s_nil) s_nil)
      (s_cons (s_if (tv_cmp (op_neD hu) op_neqD flat_ne (v_r (r_f (f_lcV [("_law_thing", 3)] (by rfl) rfl nd (i_seqV (r_f (f_sl (r_v 2) o_none (o_some (r_f f_int))))) (blkOk_by (own := [("_law_thing", 3)]) (N := N_lw_letters_right) (sc := defScope s_lw_letters_right) (by decide +kernel)) (fun _ _ _ _ _ => (g_name 3 nd (by rfl) (by first | exact Or.inl rfl | exact Or.inr rfl) (by rw [ek]; decide))) (fun _ _ _ _ _ => ts_nil) (fun _ _ _ _ _ => (r_f (f_isi' (r_v 3) (pe_bltn (v := .ty "str") (u := .type "str") (by rfl) T.z_str (by decide +kernel) rfl) T.z_isinstance))) (by decide) (by rw [ek]; decide)))) (v_r (r_f (f_lst (a_cons (r_f f_bl) (a_cons (r_f f_bl) (a_cons (r_f f_bl) a_nil)))))) (nomark _)) (s_cons (s_ret (g_f f_bl)) s_nil) s_nil)
      s_nil)))
      (s_cons (s_ret (g_f (v_cmp (op_eqD hu) op_eqqD flat_eq (v_r (r_v 0)) (v_r (r_v 1)) (nomark _)))) s_nil)))
theorem ok_lw_parts_right (T : Tx K mg w) : FnOk P w K mg base CX0 3 T.a_lw_parts_right T.d_lw_parts_right ["_law_found", "_law_due"] (spD ⟨K, T.cl⟩ F_lw_parts_right) := by
  refine ok_def (N := N_lw_parts_right) (m := m_lw_parts_right) (kp := [true, true]) T.f_lw_parts_right sc_lw_parts_right rfl (fun cdv A outer s H XE en ek hr => ?_)
  have hu := hr.units
  have nd := (sc_lw_parts_right).nd
  exact (s_cons (s_if (t_w (w_or (t_not (t_val (r_f (f_isi' (r_v 0) (pe_bltn (v := .ty "list") (u := .type "list") (by rfl) T.z_list (by decide +kernel) rfl) T.z_isinstance)))) (w_or1 (tv_cmp (op_neD hu) op_neqD flat_ne (v_r (r_f (f_blt cr_len op_lenD (by rfl) T.z_len (by decide +kernel) (a_cons (r_v 0) a_nil)))) (v_r (r_f (f_blt cr_len op_lenD (by rfl) T.z_len (by decide +kernel) (a_cons (r_v 1) a_nil)))) (nomark _))))) (s_cons (s_ret (g_f f_bl)) s_nil) s_nil)
      (s_cons (s_for [2, 3] PassesOwn.never rfl (i_zip (by rfl) T.z_zip (r_v 0) (r_v 1)) (g_tup rfl (gs_cons (g_name 2 nd (by rfl) (by first | exact Or.inl rfl | exact Or.inr rfl) (by rw [ek]; decide)) (gs_cons (g_name 3 nd (by rfl) (by first | exact Or.inl rfl | exact Or.inr rfl) (by rw [ek]; decide)) gs_nil)) (hlen := len_cons (len_cons (fun _ _ _ h => len_nil h)))) (s_cons (s_if (t_w (w_or (t_not (t_val (r_f (f_isi' (r_v 2) (pe_bltn (v := .ty "tuple") (u := .type "tuple") (by rfl) T.z_tuple (by decide +kernel) rfl) T.z_isinstance)))) (w_or (tv_cmp (op_neD hu) op_neqD flat_ne (v_r (r_f (f_blt cr_len op_lenD (by rfl) T.z_len (by decide +kernel) (a_cons (r_v 2) a_nil)))) (v_r (r_f f_int)) (nomark _)) (w_or1 (tv_cmp (op_neD hu) op_neqD flat_ne (v_r (r_ix hu (r_v 2) (r_f f_int))) (v_r (r_ix hu (r_v 3) (r_f f_int))) (nomark _)))))) (s_cons (s_ret (g_f f_bl)) s_nil) s_nil)
      (s_cons (s_if (t_not (t_val (r_f (f_call (ok_lw_letters_right T) (hr.mono (by decide)) (by rfl) T.g_lw_letters_right T.f_lw_letters_right.kp T.b_lw_letters_right pass0 (a_cons (r_ix hu (r_v 2) (r_f f_int)) (a_cons (r_ix hu (r_v 3) (r_f f_int)) a_nil)))))) (s_cons (s_ret (g_f f_bl)) s_nil) s_nil)
      s_nil)))
      (s_cons (s_ret (g_f f_bl)) s_nil)))
theorem ok_lw_piece (T : Tx K mg w) : FnOk P w K mg base CX0 2 T.a_lw_piece T.d_lw_piece ["_law_cell_here", "_law_ends"] (spD ⟨K, T.cl⟩ F_lw_piece) := by
  refine ok_def (N := N_lw_piece) (m := m_lw_piece) (kp := [true, true]) T.f_lw_piece sc_lw_piece rfl (fun cdv A outer s H XE en ek hr => ?_)
  have hu := hr.units
  have nd := (sc_lw_piece).nd
  exact (s_cons (s_set 2 nd (by rfl) (by first | exact Or.inl rfl | exact Or.inr rfl) (by rw [ek]; decide) (g_r (r_ix hu (r_f (f_str [97, 98, 99, 100, 101, 102, 103, 104, 46])) (r_f (f_bin op_mod op_modD (r_f (f_call (ok_lw_mix T) (hr.mono (by decide)) (by rfl) T.g_lw_mix T.f_lw_mix.kp T.b_lw_mix pass0 (a_cons (r_v 0) (a_cons (r_f f_int) a_nil)))) (r_f f_int))))))
      (s_cons (s_set 3 nd (by rfl) (by first | exact Or.inl rfl | exact Or.inr rfl) (by rw [ek]; decide) (g_f (f_bin op_mod op_modD (r_f (f_call (ok_lw_mix T) (hr.mono (by decide)) (by rfl) T.g_lw_mix T.f_lw_mix.kp T.b_lw_mix pass0 (a_cons (r_v 0) (a_cons (r_f f_int) a_nil)))) (r_f f_int))))
      (s_cons (s_if (t_cmp opr_lt op_cmpD (r_v 3) (r_f f_int) (nomark _)) (s_cons (s_ret (g_f (f_bin opr_add op_addD (r_f (f_bin opr_add op_addD (r_f (f_str [91])) (r_v 2))) (r_f (f_str [93]))))) s_nil) s_nil)
      (s_cons (s_if (t_cmp opr_lt op_cmpD (r_v 3) (r_f f_int) (nomark _)) (s_cons (s_ret (g_f (f_bin opr_add op_addD (r_f (f_bin opr_add op_addD (r_f (f_str [91, 47])) (r_v 2))) (r_f (f_str [93]))))) s_nil) s_nil)
      (s_cons (s_if (tv_cmp (op_eqD hu) op_eqqD flat_eq (v_r (r_v 3)) (v_r (r_f f_int)) (nomark _)) (s_cons (s_ret (g_r (r_ix hu (r_f (f_lst (a_cons (r_f (f_str [91, 93])) (a_cons (r_f (f_str [91, 91])) (a_cons (r_f (f_bin opr_add op_addD (r_f (f_str [91])) (r_v 2))) (a_cons (r_f (f_bin opr_add op_addD (r_f (f_str [91, 47])) (r_v 2))) a_nil)))))) (r_f (f_bin op_mod op_modD (r_f (f_call (ok_lw_mix T) (hr.mono (by decide)) (by rfl) T.g_lw_mix T.f_lw_mix.kp T.b_lw_mix pass0 (a_cons (r_v 0) (a_cons (r_f f_int) a_nil)))) (r_f f_int)))))) s_nil) s_nil)
      (s_cons (s_if (t_w (w_and (tv_cmp (op_eqD hu) op_eqqD flat_eq (v_r (r_v 3)) (v_r (r_f f_int)) (nomark _)) (w_and1 (t_val (r_v 1))))) (s_cons (s_ret (g_f (f_str [10]))) s_nil) s_nil)
      (s_cons (s_ret (g_r (r_ix hu (r_f (f_lst (a_cons (r_ix hu (r_f (f_call0 (ok_lw_signs T) (hr.mono (by decide)) (by rfl) T.g_lw_signs T.f_lw_signs.kp T.b_lw_signs pass0)) (r_f (f_bin op_mod op_modD (r_f (f_call (ok_lw_mix T) (hr.mono (by decide)) (by rfl) T.g_lw_mix T.f_lw_mix.kp T.b_lw_mix pass0 (a_cons (r_v 0) (a_cons (r_f f_int) a_nil)))) (r_f f_int)))) (a_cons (r_f (f_str [32])) (a_cons (r_f (f_str [97])) (a_cons (r_f (f_str [66])) a_nil)))))) (r_f (f_bin op_mod op_modD (r_f (f_call (ok_lw_mix T) (hr.mono (by decide)) (by rfl) T.g_lw_mix T.f_lw_mix.kp T.b_lw_mix pass0 (a_cons (r_v 0) (a_cons (r_f f_int) a_nil)))) (r_f f_int)))))) s_nil)))))))
theorem ok_law (T : Tx K mg w) : FnOk P w K mg base CX0 7 T.a_law T.d_law ["_law_script"] (spD ⟨K, T.cl⟩ F_law) := by
  refine ok_def (N := N_law) (m := m_law) (kp := [true]) T.f_law sc_law rfl (fun cdv A outer s H XE en ek hr => ?_)
  have hu := hr.units
  have nd := (sc_law).nd
  exact (s_cons (s_set 1 nd (by rfl) (by first | exact Or.inl rfl | exact Or.inr rfl) (by rw [ek]; decide) (g_f (f_cmp opr_gt op_cmpD (r_f (f_bin op_mod op_modD (r_f (f_call (ok_lw_mix T) (hr.mono (by decide)) (by rfl) T.g_lw_mix T.f_lw_mix.kp T.b_lw_mix pass0 (a_cons (r_f (f_call (ok_lw_cell T) (hr.mono (by decide)) (by rfl) T.g_lw_cell T.f_lw_cell.kp T.b_lw_cell pass0 (a_cons (r_v 0) (a_cons (r_f f_int) a_nil)))) (a_cons (r_f f_int) a_nil)))) (r_f f_int))) (r_f f_int) (nomark _))))
      (s_cons (s_set 2 nd (by rfl) (by first | exact Or.inl rfl | exact Or.inr rfl) (by rw [ek]; decide) (g_f (f_join (r_f (f_str [])) (r_f (f_lcV [("_law_cell_here", 8)] (by rfl) rfl nd (i_seqV (r_f (f_cold (f_sl (r_v 0) o_none (o_some (r_f f_int)))))) (blkOk_by (own := [("_law_cell_here", 8)]) (N := N_law) (sc := defScope s_law) (by decide +kernel)) (fun _ _ _ _ _ => (g_name 8 nd (by rfl) (by first | exact Or.inl rfl | exact Or.inr rfl) (by rw [ek]; decide))) (fun _ _ _ _ _ => ts_nil) (fun _ _ _ _ _ => (r_f (f_call (ok_lw_piece T) (hr.mono (by decide)) (by rfl) T.g_lw_piece T.f_lw_piece.kp T.b_lw_piece pass0 (a_cons (r_v 8) (a_cons (r_v 1) a_nil))))) (by decide) (by rw [ek]; decide))))))
      (s_cons (s_set 3 nd (by rfl) (by first | exact Or.inl rfl | exact Or.inr rfl) (by rw [ek]; decide) (g_f (f_call (ok_lw_parts T) (hr.mono (by decide)) (by rfl) T.g_lw_parts T.f_lw_parts.kp T.b_lw_parts pass0 (a_cons (r_f (f_cold (f_call (ok_lw_items T) (hr.mono (by decide)) (by rfl) T.g_lw_items T.f_lw_items.kp T.b_lw_items pass0 (a_cons (r_v 2) a_nil)))) (a_cons (r_f f_int) a_nil)))))
      (s_cons (s_set 4 nd (by rfl) (by first | exact Or.inl rfl | exact Or.inr rfl) (by rw [ek]; decide) (g_f (f_call (ok_rows_of T) (hr.mono (by decide)) (by rfl) T.g_rows_of T.f_rows_of.kp T.b_rows_of pass0 (a_cons (r_v 2) (a_cons (r_f f_int) a_nil)))))
      (s_cons (s_if (t_w (w_or (t_not (t_val (r_f (f_isi' (r_v 4) (pe_bltn (v := .ty "tuple") (u := .type "tuple") (by rfl) T.z_tuple (by decide +kernel) rfl) T.z_isinstance)))) (w_or1 (tv_cmp (op_neD hu) op_neqD flat_ne (v_r (r_f (f_blt cr_len op_lenD (by rfl) T.z_len (by decide +kernel) (a_cons (r_v 4) a_nil)))) (v_r (r_f f_int)) (nomark _))))) (s_cons (s_ret (g_f f_bl)) s_nil) s_nil)
      (s_cons (s_if (t_w (w_or (t_not (t_val (r_f (f_call (ok_lw_parts_right T) (hr.mono (by decide)) (by rfl) T.g_lw_parts_right T.f_lw_parts_right.kp T.b_lw_parts_right pass0 (a_cons (r_ix hu (r_v 4) (r_f f_int)) (a_cons (r_ix hu (r_v 3) (r_f f_int)) a_nil)))))) (w_or1 (t_not (t_val (r_f (f_call (ok_lw_letters_right T) (hr.mono (by decide)) (by rfl) T.g_lw_letters_right T.f_lw_letters_right.kp T.b_lw_letters_right pass0 (a_cons (r_ix hu (r_v 4) (r_f f_int)) (a_cons (r_ix hu (r_v 3) (r_f f_int)) a_nil))))))))) (s_cons (s_ret (g_f f_bl)) s_nil) s_nil)
      (s_cons (s_forCT 4 0 [true, false, false, false, true] [5, 6] PassesOwn.never rfl (by rw [ek]; exact kpE (by decide)) (by rw [ek]; exact kpS (by decide)) (by rfl) (by decide) (g_tup rfl (gs_cons (g_name 5 nd (by rfl) (by first | exact Or.inl rfl | exact Or.inr rfl) (by rw [ek]; decide)) (gs_cons (g_name 6 nd (by rfl) (by first | exact Or.inl rfl | exact Or.inr rfl) (by rw [ek]; decide)) gs_nil)) (hlen := len_cons (len_cons (fun _ _ _ h => len_nil h)))) (fun en ek => (s_cons (s_expr (g_clear (p_v 5)))
      s_nil)))
      (s_cons (s_expr (g_clear (p_tix 1 (p_v 4))))
      (s_cons (s_set 7 nd (by rfl) (by first | exact Or.inl rfl | exact Or.inr rfl) (by rw [ek]; decide) (g_f (f_cold (f_call (ok_rows_of T) (hr.mono (by decide)) (by rfl) T.g_rows_of T.f_rows_of.kp T.b_rows_of pass0 (a_cons (r_v 2) (a_cons (r_f f_int) a_nil))))))
      (s_cons (s_ret (g_f (f_and (r_f (f_call (ok_lw_parts_right T) (hr.mono (by decide)) (by rfl) T.g_lw_parts_right T.f_lw_parts_right.kp T.b_lw_parts_right pass0 (a_cons (r_ix hu (r_v 7) (r_f f_int)) (a_cons (r_ix hu (r_v 3) (r_f f_int)) a_nil)))) (f_one (f_call (ok_lw_letters_right T) (hr.mono (by decide)) (by rfl) T.g_lw_letters_right T.f_lw_letters_right.kp T.b_lw_letters_right pass0 (a_cons (r_ix hu (r_v 7) (r_f f_int)) (a_cons (r_ix hu (r_v 3) (r_f f_int)) a_nil))))))) s_nil))))))))))
end
end LW
namespace LW
open PySem L2 PyProof.Rows LI
theorem law_true (ns : List Int) (hl : ns.length ≤ 63) (hb : ∀ z ∈ ns, Builtin.Int.intBits z ≤ 1048576) : ∃ ds', F_law [.scr ns] = some (.bl true, ds') := ⟨_, L_law ns (LW.law_t ns hl hb)⟩
theorem all_mk (LT : ∀ ns : List Int, ns.length ≤ 63 → (∀ z ∈ ns, Builtin.Int.intBits z ≤ 1048576) → ∃ ds', F_law [.scr ns] = some (.bl true, ds')) {l : PySem.W.OpenLaw} {w : World} {K : PySem.W.Frag} {h : Heap} {mg : Str → Option Value} {fa : Addr} (X : K.In h) (G : h.Ns mainGlobals mg) (hfa : mg "law" = some (.ref fa))
    {c_Reader : Addr} {c_Maker : Addr} {p_is_sign : Addr} {od_is_sign an_is_sign : Option Addr} {sl_is_sign : Array (Option Value)} {oc_is_sign kV_is_sign dc_is_sign pm_is_sign cd_is_sign ct_is_sign : Value} {p_is_colour : Addr} {od_is_colour an_is_colour : Option Addr} {sl_is_colour : Array (Option Value)} {oc_is_colour kV_is_colour dc_is_colour pm_is_colour cd_is_colour ct_is_colour : Value} {p_checked : Addr} {od_checked an_checked : Option Addr} {sl_checked : Array (Option Value)} {oc_checked kV_checked dc_checked pm_checked cd_checked ct_checked : Value} {p_sign_item : Addr} {od_sign_item an_sign_item : Option Addr} {sl_sign_item : Array (Option Value)} {oc_sign_item kV_sign_item dc_sign_item pm_sign_item cd_sign_item ct_sign_item : Value} {p_begins_mark : Addr} {od_begins_mark an_begins_mark : Option Addr} {sl_begins_mark : Array (Option Value)} {oc_begins_mark kV_begins_mark dc_begins_mark pm_begins_mark cd_begins_mark ct_begins_mark : Value} {p_mark_item : Addr} {od_mark_item an_mark_item : Option Addr} {sl_mark_item : Array (Option Value)} {oc_mark_item kV_mark_item dc_mark_item pm_mark_item cd_mark_item ct_mark_item : Value} {p_Reader_init : Addr} {od_Reader_init an_Reader_init : Option Addr} {sl_Reader_init : Array (Option Value)} {oc_Reader_init kV_Reader_init dc_Reader_init pm_Reader_init cd_Reader_init ct_Reader_init : Value} {p_Reader_told : Addr} {od_Reader_told an_Reader_told : Option Addr} {sl_Reader_told : Array (Option Value)} {oc_Reader_told kV_Reader_told dc_Reader_told pm_Reader_told cd_Reader_told ct_Reader_told : Value} {p_Reader_take : Addr} {od_Reader_take an_Reader_take : Option Addr} {sl_Reader_take : Array (Option Value)} {oc_Reader_take kV_Reader_take dc_Reader_take pm_Reader_take cd_Reader_take ct_Reader_take : Value} {p_Reader_feed : Addr} {od_Reader_feed an_Reader_feed : Option Addr} {sl_Reader_feed : Array (Option Value)} {oc_Reader_feed kV_Reader_feed dc_Reader_feed pm_Reader_feed cd_Reader_feed ct_Reader_feed : Value} {p_Reader_finish : Addr} {od_Reader_finish an_Reader_finish : Option Addr} {sl_Reader_finish : Array (Option Value)} {oc_Reader_finish kV_Reader_finish dc_Reader_finish pm_Reader_finish cd_Reader_finish ct_Reader_finish : Value} {p_items_of : Addr} {od_items_of an_items_of : Option Addr} {sl_items_of : Array (Option Value)} {oc_items_of kV_items_of dc_items_of pm_items_of cd_items_of ct_items_of : Value} {p_checked_most : Addr} {od_checked_most an_checked_most : Option Addr} {sl_checked_most : Array (Option Value)} {oc_checked_most kV_checked_most dc_checked_most pm_checked_most cd_checked_most ct_checked_most : Value} {p_Maker_init : Addr} {od_Maker_init an_Maker_init : Option Addr} {sl_Maker_init : Array (Option Value)} {oc_Maker_init kV_Maker_init dc_Maker_init pm_Maker_init cd_Maker_init ct_Maker_init : Value} {p_Maker_open_letters : Addr} {od_Maker_open_letters an_Maker_open_letters : Option Addr} {sl_Maker_open_letters : Array (Option Value)} {oc_Maker_open_letters kV_Maker_open_letters dc_Maker_open_letters pm_Maker_open_letters cd_Maker_open_letters ct_Maker_open_letters : Value} {p_Maker_make_plain : Addr} {od_Maker_make_plain an_Maker_make_plain : Option Addr} {sl_Maker_make_plain : Array (Option Value)} {oc_Maker_make_plain kV_Maker_make_plain dc_Maker_make_plain pm_Maker_make_plain cd_Maker_make_plain ct_Maker_make_plain : Value} {p_Maker_tell_part : Addr} {od_Maker_tell_part an_Maker_tell_part : Option Addr} {sl_Maker_tell_part : Array (Option Value)} {oc_Maker_tell_part kV_Maker_tell_part dc_Maker_tell_part pm_Maker_tell_part cd_Maker_tell_part ct_Maker_tell_part : Value} {p_Maker_put_sign : Addr} {od_Maker_put_sign an_Maker_put_sign : Option Addr} {sl_Maker_put_sign : Array (Option Value)} {oc_Maker_put_sign kV_Maker_put_sign dc_Maker_put_sign pm_Maker_put_sign cd_Maker_put_sign ct_Maker_put_sign : Value} {p_Maker_put : Addr} {od_Maker_put an_Maker_put : Option Addr} {sl_Maker_put : Array (Option Value)} {oc_Maker_put kV_Maker_put dc_Maker_put pm_Maker_put cd_Maker_put ct_Maker_put : Value} {p_rows_of : Addr} {od_rows_of an_rows_of : Option Addr} {sl_rows_of : Array (Option Value)} {oc_rows_of kV_rows_of dc_rows_of pm_rows_of cd_rows_of ct_rows_of : Value} {p_lw_cell : Addr} {od_lw_cell an_lw_cell : Option Addr} {sl_lw_cell : Array (Option Value)} {oc_lw_cell kV_lw_cell dc_lw_cell pm_lw_cell cd_lw_cell ct_lw_cell : Value} {p_lw_mix : Addr} {od_lw_mix an_lw_mix : Option Addr} {sl_lw_mix : Array (Option Value)} {oc_lw_mix kV_lw_mix dc_lw_mix pm_lw_mix cd_lw_mix ct_lw_mix : Value} {p_lw_signs : Addr} {od_lw_signs an_lw_signs : Option Addr} {sl_lw_signs : Array (Option Value)} {oc_lw_signs kV_lw_signs dc_lw_signs pm_lw_signs cd_lw_signs ct_lw_signs : Value} {p_lw_item : Addr} {od_lw_item an_lw_item : Option Addr} {sl_lw_item : Array (Option Value)} {oc_lw_item kV_lw_item dc_lw_item pm_lw_item cd_lw_item ct_lw_item : Value} {p_lw_items : Addr} {od_lw_items an_lw_items : Option Addr} {sl_lw_items : Array (Option Value)} {oc_lw_items kV_lw_items dc_lw_items pm_lw_items cd_lw_items ct_lw_items : Value} {p_lw_parts : Addr} {od_lw_parts an_lw_parts : Option Addr} {sl_lw_parts : Array (Option Value)} {oc_lw_parts kV_lw_parts dc_lw_parts pm_lw_parts cd_lw_parts ct_lw_parts : Value} {p_lw_whole : Addr} {od_lw_whole an_lw_whole : Option Addr} {sl_lw_whole : Array (Option Value)} {oc_lw_whole kV_lw_whole dc_lw_whole pm_lw_whole cd_lw_whole ct_lw_whole : Value} {p_lw_letters_right : Addr} {od_lw_letters_right an_lw_letters_right : Option Addr} {sl_lw_letters_right : Array (Option Value)} {oc_lw_letters_right kV_lw_letters_right dc_lw_letters_right pm_lw_letters_right cd_lw_letters_right ct_lw_letters_right : Value} {p_lw_parts_right : Addr} {od_lw_parts_right an_lw_parts_right : Option Addr} {sl_lw_parts_right : Array (Option Value)} {oc_lw_parts_right kV_lw_parts_right dc_lw_parts_right pm_lw_parts_right cd_lw_parts_right ct_lw_parts_right : Value} {p_lw_piece : Addr} {od_lw_piece an_lw_piece : Option Addr} {sl_lw_piece : Array (Option Value)} {oc_lw_piece kV_lw_piece dc_lw_piece pm_lw_piece cd_lw_piece ct_lw_piece : Value} {p_law : Addr} {od_law an_law : Option Addr} {sl_law : Array (Option Value)} {oc_law kV_law dc_law pm_law cd_law ct_law : Value} {t_COLOURS : Tok} {t_CONTROLS : Tok} {q_ENDS : Addr} {es_ENDS : Array DictEntry} {n_ENDS : Nat} {t_FIRST : Tok} {t_LAST : Tok} {t_MORE : Tok} {t_MOST : Tok} {t_PLAIN : Tok} {t_WHOLE : Tok}
    (gc_Reader : PySem.W.nsIn K mainGlobals "Reader" = some (some (.ref c_Reader)))
    (gc_Maker : PySem.W.nsIn K mainGlobals "Maker" = some (some (.ref c_Maker)))
    (a1_is_sign : PySem.W.nsIn K mainGlobals "is_sign" = some (some (.ref p_is_sign)))
    (a2_is_sign : K.lookup p_is_sign = some ⟨oc_is_sign, od_is_sign, .func (PySem.W.fnOf "is_sign" "is_sign" (defArgs s_is_sign) (defBody s_is_sign) (defScope s_is_sign) .none kV_is_sign dc_is_sign pm_is_sign an_is_sign cd_is_sign ct_is_sign), sl_is_sign⟩)
    (a3_is_sign : PySem.W.codeIn K cd_is_sign "is_sign" = true)
    (a4_is_sign : PySem.W.keepIn K (.ref p_is_sign) = true)
    (a1_is_colour : PySem.W.nsIn K mainGlobals "is_colour" = some (some (.ref p_is_colour)))
    (a2_is_colour : K.lookup p_is_colour = some ⟨oc_is_colour, od_is_colour, .func (PySem.W.fnOf "is_colour" "is_colour" (defArgs s_is_colour) (defBody s_is_colour) (defScope s_is_colour) .none kV_is_colour dc_is_colour pm_is_colour an_is_colour cd_is_colour ct_is_colour), sl_is_colour⟩)
    (a3_is_colour : PySem.W.codeIn K cd_is_colour "is_colour" = true)
    (a4_is_colour : PySem.W.keepIn K (.ref p_is_colour) = true)
    (a1_checked : PySem.W.nsIn K mainGlobals "checked" = some (some (.ref p_checked)))
    (a2_checked : K.lookup p_checked = some ⟨oc_checked, od_checked, .func (PySem.W.fnOf "checked" "checked" (defArgs s_checked) (defBody s_checked) (defScope s_checked) .none kV_checked dc_checked pm_checked an_checked cd_checked ct_checked), sl_checked⟩)
    (a3_checked : PySem.W.codeIn K cd_checked "checked" = true)
    (a4_checked : PySem.W.keepIn K (.ref p_checked) = true)
    (a1_sign_item : PySem.W.nsIn K mainGlobals "sign_item" = some (some (.ref p_sign_item)))
    (a2_sign_item : K.lookup p_sign_item = some ⟨oc_sign_item, od_sign_item, .func (PySem.W.fnOf "sign_item" "sign_item" (defArgs s_sign_item) (defBody s_sign_item) (defScope s_sign_item) .none kV_sign_item dc_sign_item pm_sign_item an_sign_item cd_sign_item ct_sign_item), sl_sign_item⟩)
    (a3_sign_item : PySem.W.codeIn K cd_sign_item "sign_item" = true)
    (a4_sign_item : PySem.W.keepIn K (.ref p_sign_item) = true)
    (a1_begins_mark : PySem.W.nsIn K mainGlobals "begins_mark" = some (some (.ref p_begins_mark)))
    (a2_begins_mark : K.lookup p_begins_mark = some ⟨oc_begins_mark, od_begins_mark, .func (PySem.W.fnOf "begins_mark" "begins_mark" (defArgs s_begins_mark) (defBody s_begins_mark) (defScope s_begins_mark) .none kV_begins_mark dc_begins_mark pm_begins_mark an_begins_mark cd_begins_mark ct_begins_mark), sl_begins_mark⟩)
    (a3_begins_mark : PySem.W.codeIn K cd_begins_mark "begins_mark" = true)
    (a4_begins_mark : PySem.W.keepIn K (.ref p_begins_mark) = true)
    (a1_mark_item : PySem.W.nsIn K mainGlobals "mark_item" = some (some (.ref p_mark_item)))
    (a2_mark_item : K.lookup p_mark_item = some ⟨oc_mark_item, od_mark_item, .func (PySem.W.fnOf "mark_item" "mark_item" (defArgs s_mark_item) (defBody s_mark_item) (defScope s_mark_item) .none kV_mark_item dc_mark_item pm_mark_item an_mark_item cd_mark_item ct_mark_item), sl_mark_item⟩)
    (a3_mark_item : PySem.W.codeIn K cd_mark_item "mark_item" = true)
    (a4_mark_item : PySem.W.keepIn K (.ref p_mark_item) = true)
    (a1_Reader_init : PySem.W.findIn K (.ref c_Reader) "__init__" = some (some (.ref p_Reader_init)))
    (a5_Reader_init : PySem.W.isFn K (.ref p_Reader_init) = true)
    (a2_Reader_init : K.lookup p_Reader_init = some ⟨oc_Reader_init, od_Reader_init, .func (PySem.W.fnOf "__init__" "Reader.__init__" (defArgs s_Reader_init) (defBody s_Reader_init) (defScope s_Reader_init) .none kV_Reader_init dc_Reader_init pm_Reader_init an_Reader_init cd_Reader_init ct_Reader_init), sl_Reader_init⟩)
    (a3_Reader_init : PySem.W.codeIn K cd_Reader_init "Reader.__init__" = true)
    (a4_Reader_init : PySem.W.keepIn K (.ref p_Reader_init) = true)
    (a1_Reader_told : PySem.W.findIn K (.ref c_Reader) "told" = some (some (.ref p_Reader_told)))
    (a5_Reader_told : PySem.W.isFn K (.ref p_Reader_told) = true)
    (a2_Reader_told : K.lookup p_Reader_told = some ⟨oc_Reader_told, od_Reader_told, .func (PySem.W.fnOf "told" "Reader.told" (defArgs s_Reader_told) (defBody s_Reader_told) (defScope s_Reader_told) .none kV_Reader_told dc_Reader_told pm_Reader_told an_Reader_told cd_Reader_told ct_Reader_told), sl_Reader_told⟩)
    (a3_Reader_told : PySem.W.codeIn K cd_Reader_told "Reader.told" = true)
    (a4_Reader_told : PySem.W.keepIn K (.ref p_Reader_told) = true)
    (a1_Reader_take : PySem.W.findIn K (.ref c_Reader) "take" = some (some (.ref p_Reader_take)))
    (a5_Reader_take : PySem.W.isFn K (.ref p_Reader_take) = true)
    (a2_Reader_take : K.lookup p_Reader_take = some ⟨oc_Reader_take, od_Reader_take, .func (PySem.W.fnOf "take" "Reader.take" (defArgs s_Reader_take) (defBody s_Reader_take) (defScope s_Reader_take) .none kV_Reader_take dc_Reader_take pm_Reader_take an_Reader_take cd_Reader_take ct_Reader_take), sl_Reader_take⟩)
    (a3_Reader_take : PySem.W.codeIn K cd_Reader_take "Reader.take" = true)
    (a4_Reader_take : PySem.W.keepIn K (.ref p_Reader_take) = true)
    (a1_Reader_feed : PySem.W.findIn K (.ref c_Reader) "feed" = some (some (.ref p_Reader_feed)))
    (a5_Reader_feed : PySem.W.isFn K (.ref p_Reader_feed) = true)
    (a2_Reader_feed : K.lookup p_Reader_feed = some ⟨oc_Reader_feed, od_Reader_feed, .func (PySem.W.fnOf "feed" "Reader.feed" (defArgs s_Reader_feed) (defBody s_Reader_feed) (defScope s_Reader_feed) .none kV_Reader_feed dc_Reader_feed pm_Reader_feed an_Reader_feed cd_Reader_feed ct_Reader_feed), sl_Reader_feed⟩)
    (a3_Reader_feed : PySem.W.codeIn K cd_Reader_feed "Reader.feed" = true)
    (a4_Reader_feed : PySem.W.keepIn K (.ref p_Reader_feed) = true)
    (a1_Reader_finish : PySem.W.findIn K (.ref c_Reader) "finish" = some (some (.ref p_Reader_finish)))
    (a5_Reader_finish : PySem.W.isFn K (.ref p_Reader_finish) = true)
    (a2_Reader_finish : K.lookup p_Reader_finish = some ⟨oc_Reader_finish, od_Reader_finish, .func (PySem.W.fnOf "finish" "Reader.finish" (defArgs s_Reader_finish) (defBody s_Reader_finish) (defScope s_Reader_finish) .none kV_Reader_finish dc_Reader_finish pm_Reader_finish an_Reader_finish cd_Reader_finish ct_Reader_finish), sl_Reader_finish⟩)
    (a3_Reader_finish : PySem.W.codeIn K cd_Reader_finish "Reader.finish" = true)
    (a4_Reader_finish : PySem.W.keepIn K (.ref p_Reader_finish) = true)
    (a1_items_of : PySem.W.nsIn K mainGlobals "items_of" = some (some (.ref p_items_of)))
    (a2_items_of : K.lookup p_items_of = some ⟨oc_items_of, od_items_of, .func (PySem.W.fnOf "items_of" "items_of" (defArgs s_items_of) (defBody s_items_of) (defScope s_items_of) .none kV_items_of dc_items_of pm_items_of an_items_of cd_items_of ct_items_of), sl_items_of⟩)
    (a3_items_of : PySem.W.codeIn K cd_items_of "items_of" = true)
    (a4_items_of : PySem.W.keepIn K (.ref p_items_of) = true)
    (a1_checked_most : PySem.W.nsIn K mainGlobals "checked_most" = some (some (.ref p_checked_most)))
    (a2_checked_most : K.lookup p_checked_most = some ⟨oc_checked_most, od_checked_most, .func (PySem.W.fnOf "checked_most" "checked_most" (defArgs s_checked_most) (defBody s_checked_most) (defScope s_checked_most) .none kV_checked_most dc_checked_most pm_checked_most an_checked_most cd_checked_most ct_checked_most), sl_checked_most⟩)
    (a3_checked_most : PySem.W.codeIn K cd_checked_most "checked_most" = true)
    (a4_checked_most : PySem.W.keepIn K (.ref p_checked_most) = true)
    (a1_Maker_init : PySem.W.findIn K (.ref c_Maker) "__init__" = some (some (.ref p_Maker_init)))
    (a5_Maker_init : PySem.W.isFn K (.ref p_Maker_init) = true)
    (a2_Maker_init : K.lookup p_Maker_init = some ⟨oc_Maker_init, od_Maker_init, .func (PySem.W.fnOf "__init__" "Maker.__init__" (defArgs s_Maker_init) (defBody s_Maker_init) (defScope s_Maker_init) .none kV_Maker_init dc_Maker_init pm_Maker_init an_Maker_init cd_Maker_init ct_Maker_init), sl_Maker_init⟩)
    (a3_Maker_init : PySem.W.codeIn K cd_Maker_init "Maker.__init__" = true)
    (a4_Maker_init : PySem.W.keepIn K (.ref p_Maker_init) = true)
    (a1_Maker_open_letters : PySem.W.findIn K (.ref c_Maker) "open_letters" = some (some (.ref p_Maker_open_letters)))
    (a5_Maker_open_letters : PySem.W.isFn K (.ref p_Maker_open_letters) = true)
    (a2_Maker_open_letters : K.lookup p_Maker_open_letters = some ⟨oc_Maker_open_letters, od_Maker_open_letters, .func (PySem.W.fnOf "open_letters" "Maker.open_letters" (defArgs s_Maker_open_letters) (defBody s_Maker_open_letters) (defScope s_Maker_open_letters) .none kV_Maker_open_letters dc_Maker_open_letters pm_Maker_open_letters an_Maker_open_letters cd_Maker_open_letters ct_Maker_open_letters), sl_Maker_open_letters⟩)
    (a3_Maker_open_letters : PySem.W.codeIn K cd_Maker_open_letters "Maker.open_letters" = true)
    (a4_Maker_open_letters : PySem.W.keepIn K (.ref p_Maker_open_letters) = true)
    (a1_Maker_make_plain : PySem.W.findIn K (.ref c_Maker) "make_plain" = some (some (.ref p_Maker_make_plain)))
    (a5_Maker_make_plain : PySem.W.isFn K (.ref p_Maker_make_plain) = true)
    (a2_Maker_make_plain : K.lookup p_Maker_make_plain = some ⟨oc_Maker_make_plain, od_Maker_make_plain, .func (PySem.W.fnOf "make_plain" "Maker.make_plain" (defArgs s_Maker_make_plain) (defBody s_Maker_make_plain) (defScope s_Maker_make_plain) .none kV_Maker_make_plain dc_Maker_make_plain pm_Maker_make_plain an_Maker_make_plain cd_Maker_make_plain ct_Maker_make_plain), sl_Maker_make_plain⟩)
    (a3_Maker_make_plain : PySem.W.codeIn K cd_Maker_make_plain "Maker.make_plain" = true)
    (a4_Maker_make_plain : PySem.W.keepIn K (.ref p_Maker_make_plain) = true)
    (a1_Maker_tell_part : PySem.W.findIn K (.ref c_Maker) "tell_part" = some (some (.ref p_Maker_tell_part)))
    (a5_Maker_tell_part : PySem.W.isFn K (.ref p_Maker_tell_part) = true)
    (a2_Maker_tell_part : K.lookup p_Maker_tell_part = some ⟨oc_Maker_tell_part, od_Maker_tell_part, .func (PySem.W.fnOf "tell_part" "Maker.tell_part" (defArgs s_Maker_tell_part) (defBody s_Maker_tell_part) (defScope s_Maker_tell_part) .none kV_Maker_tell_part dc_Maker_tell_part pm_Maker_tell_part an_Maker_tell_part cd_Maker_tell_part ct_Maker_tell_part), sl_Maker_tell_part⟩)
    (a3_Maker_tell_part : PySem.W.codeIn K cd_Maker_tell_part "Maker.tell_part" = true)
    (a4_Maker_tell_part : PySem.W.keepIn K (.ref p_Maker_tell_part) = true)
    (a1_Maker_put_sign : PySem.W.findIn K (.ref c_Maker) "put_sign" = some (some (.ref p_Maker_put_sign)))
    (a5_Maker_put_sign : PySem.W.isFn K (.ref p_Maker_put_sign) = true)
    (a2_Maker_put_sign : K.lookup p_Maker_put_sign = some ⟨oc_Maker_put_sign, od_Maker_put_sign, .func (PySem.W.fnOf "put_sign" "Maker.put_sign" (defArgs s_Maker_put_sign) (defBody s_Maker_put_sign) (defScope s_Maker_put_sign) .none kV_Maker_put_sign dc_Maker_put_sign pm_Maker_put_sign an_Maker_put_sign cd_Maker_put_sign ct_Maker_put_sign), sl_Maker_put_sign⟩)
    (a3_Maker_put_sign : PySem.W.codeIn K cd_Maker_put_sign "Maker.put_sign" = true)
    (a4_Maker_put_sign : PySem.W.keepIn K (.ref p_Maker_put_sign) = true)
    (a1_Maker_put : PySem.W.findIn K (.ref c_Maker) "put" = some (some (.ref p_Maker_put)))
    (a5_Maker_put : PySem.W.isFn K (.ref p_Maker_put) = true)
    (a2_Maker_put : K.lookup p_Maker_put = some ⟨oc_Maker_put, od_Maker_put, .func (PySem.W.fnOf "put" "Maker.put" (defArgs s_Maker_put) (defBody s_Maker_put) (defScope s_Maker_put) .none kV_Maker_put dc_Maker_put pm_Maker_put an_Maker_put cd_Maker_put ct_Maker_put), sl_Maker_put⟩)
    (a3_Maker_put : PySem.W.codeIn K cd_Maker_put "Maker.put" = true)
    (a4_Maker_put : PySem.W.keepIn K (.ref p_Maker_put) = true)
    (a1_rows_of : PySem.W.nsIn K mainGlobals "rows_of" = some (some (.ref p_rows_of)))
    (a2_rows_of : K.lookup p_rows_of = some ⟨oc_rows_of, od_rows_of, .func (PySem.W.fnOf "rows_of" "rows_of" (defArgs s_rows_of) (defBody s_rows_of) (defScope s_rows_of) .none kV_rows_of dc_rows_of pm_rows_of an_rows_of cd_rows_of ct_rows_of), sl_rows_of⟩)
    (a3_rows_of : PySem.W.codeIn K cd_rows_of "rows_of" = true)
    (a4_rows_of : PySem.W.keepIn K (.ref p_rows_of) = true)
    (a1_lw_cell : PySem.W.nsIn K mainGlobals "_law_cell" = some (some (.ref p_lw_cell)))
    (a2_lw_cell : K.lookup p_lw_cell = some ⟨oc_lw_cell, od_lw_cell, .func (PySem.W.fnOf "_law_cell" "_law_cell" (defArgs s_lw_cell) (defBody s_lw_cell) (defScope s_lw_cell) .none kV_lw_cell dc_lw_cell pm_lw_cell an_lw_cell cd_lw_cell ct_lw_cell), sl_lw_cell⟩)
    (a3_lw_cell : PySem.W.codeIn K cd_lw_cell "_law_cell" = true)
    (a4_lw_cell : PySem.W.keepIn K (.ref p_lw_cell) = true)
    (a1_lw_mix : PySem.W.nsIn K mainGlobals "_law_mix" = some (some (.ref p_lw_mix)))
    (a2_lw_mix : K.lookup p_lw_mix = some ⟨oc_lw_mix, od_lw_mix, .func (PySem.W.fnOf "_law_mix" "_law_mix" (defArgs s_lw_mix) (defBody s_lw_mix) (defScope s_lw_mix) .none kV_lw_mix dc_lw_mix pm_lw_mix an_lw_mix cd_lw_mix ct_lw_mix), sl_lw_mix⟩)
    (a3_lw_mix : PySem.W.codeIn K cd_lw_mix "_law_mix" = true)
    (a4_lw_mix : PySem.W.keepIn K (.ref p_lw_mix) = true)
    (a1_lw_signs : PySem.W.nsIn K mainGlobals "_law_signs" = some (some (.ref p_lw_signs)))
    (a2_lw_signs : K.lookup p_lw_signs = some ⟨oc_lw_signs, od_lw_signs, .func (PySem.W.fnOf "_law_signs" "_law_signs" (defArgs s_lw_signs) (defBody s_lw_signs) (defScope s_lw_signs) .none kV_lw_signs dc_lw_signs pm_lw_signs an_lw_signs cd_lw_signs ct_lw_signs), sl_lw_signs⟩)
    (a3_lw_signs : PySem.W.codeIn K cd_lw_signs "_law_signs" = true)
    (a4_lw_signs : PySem.W.keepIn K (.ref p_lw_signs) = true)
    (a1_lw_item : PySem.W.nsIn K mainGlobals "_law_item" = some (some (.ref p_lw_item)))
    (a2_lw_item : K.lookup p_lw_item = some ⟨oc_lw_item, od_lw_item, .func (PySem.W.fnOf "_law_item" "_law_item" (defArgs s_lw_item) (defBody s_lw_item) (defScope s_lw_item) .none kV_lw_item dc_lw_item pm_lw_item an_lw_item cd_lw_item ct_lw_item), sl_lw_item⟩)
    (a3_lw_item : PySem.W.codeIn K cd_lw_item "_law_item" = true)
    (a4_lw_item : PySem.W.keepIn K (.ref p_lw_item) = true)
    (a1_lw_items : PySem.W.nsIn K mainGlobals "_law_items" = some (some (.ref p_lw_items)))
    (a2_lw_items : K.lookup p_lw_items = some ⟨oc_lw_items, od_lw_items, .func (PySem.W.fnOf "_law_items" "_law_items" (defArgs s_lw_items) (defBody s_lw_items) (defScope s_lw_items) .none kV_lw_items dc_lw_items pm_lw_items an_lw_items cd_lw_items ct_lw_items), sl_lw_items⟩)
    (a3_lw_items : PySem.W.codeIn K cd_lw_items "_law_items" = true)
    (a4_lw_items : PySem.W.keepIn K (.ref p_lw_items) = true)
    (a1_lw_parts : PySem.W.nsIn K mainGlobals "_law_parts" = some (some (.ref p_lw_parts)))
    (a2_lw_parts : K.lookup p_lw_parts = some ⟨oc_lw_parts, od_lw_parts, .func (PySem.W.fnOf "_law_parts" "_law_parts" (defArgs s_lw_parts) (defBody s_lw_parts) (defScope s_lw_parts) .none kV_lw_parts dc_lw_parts pm_lw_parts an_lw_parts cd_lw_parts ct_lw_parts), sl_lw_parts⟩)
    (a3_lw_parts : PySem.W.codeIn K cd_lw_parts "_law_parts" = true)
    (a4_lw_parts : PySem.W.keepIn K (.ref p_lw_parts) = true)
    (a1_lw_whole : PySem.W.nsIn K mainGlobals "_law_whole" = some (some (.ref p_lw_whole)))
    (a2_lw_whole : K.lookup p_lw_whole = some ⟨oc_lw_whole, od_lw_whole, .func (PySem.W.fnOf "_law_whole" "_law_whole" (defArgs s_lw_whole) (defBody s_lw_whole) (defScope s_lw_whole) .none kV_lw_whole dc_lw_whole pm_lw_whole an_lw_whole cd_lw_whole ct_lw_whole), sl_lw_whole⟩)
    (a3_lw_whole : PySem.W.codeIn K cd_lw_whole "_law_whole" = true)
    (a4_lw_whole : PySem.W.keepIn K (.ref p_lw_whole) = true)
    (a1_lw_letters_right : PySem.W.nsIn K mainGlobals "_law_letters_right" = some (some (.ref p_lw_letters_right)))
    (a2_lw_letters_right : K.lookup p_lw_letters_right = some ⟨oc_lw_letters_right, od_lw_letters_right, .func (PySem.W.fnOf "_law_letters_right" "_law_letters_right" (defArgs s_lw_letters_right) (defBody s_lw_letters_right) (defScope s_lw_letters_right) .none kV_lw_letters_right dc_lw_letters_right pm_lw_letters_right an_lw_letters_right cd_lw_letters_right ct_lw_letters_right), sl_lw_letters_right⟩)
    (a3_lw_letters_right : PySem.W.codeIn K cd_lw_letters_right "_law_letters_right" = true)
    (a4_lw_letters_right : PySem.W.keepIn K (.ref p_lw_letters_right) = true)
    (a1_lw_parts_right : PySem.W.nsIn K mainGlobals "_law_parts_right" = some (some (.ref p_lw_parts_right)))
    (a2_lw_parts_right : K.lookup p_lw_parts_right = some ⟨oc_lw_parts_right, od_lw_parts_right, .func (PySem.W.fnOf "_law_parts_right" "_law_parts_right" (defArgs s_lw_parts_right) (defBody s_lw_parts_right) (defScope s_lw_parts_right) .none kV_lw_parts_right dc_lw_parts_right pm_lw_parts_right an_lw_parts_right cd_lw_parts_right ct_lw_parts_right), sl_lw_parts_right⟩)
    (a3_lw_parts_right : PySem.W.codeIn K cd_lw_parts_right "_law_parts_right" = true)
    (a4_lw_parts_right : PySem.W.keepIn K (.ref p_lw_parts_right) = true)
    (a1_lw_piece : PySem.W.nsIn K mainGlobals "_law_piece" = some (some (.ref p_lw_piece)))
    (a2_lw_piece : K.lookup p_lw_piece = some ⟨oc_lw_piece, od_lw_piece, .func (PySem.W.fnOf "_law_piece" "_law_piece" (defArgs s_lw_piece) (defBody s_lw_piece) (defScope s_lw_piece) .none kV_lw_piece dc_lw_piece pm_lw_piece an_lw_piece cd_lw_piece ct_lw_piece), sl_lw_piece⟩)
    (a3_lw_piece : PySem.W.codeIn K cd_lw_piece "_law_piece" = true)
    (a4_lw_piece : PySem.W.keepIn K (.ref p_lw_piece) = true)
    (a1_law : PySem.W.nsIn K mainGlobals "law" = some (some (.ref p_law)))
    (a2_law : K.lookup p_law = some ⟨oc_law, od_law, .func (PySem.W.fnOf "law" "law" (defArgs s_law) (defBody s_law) (defScope s_law) .none kV_law dc_law pm_law an_law cd_law ct_law), sl_law⟩)
    (a3_law : PySem.W.codeIn K cd_law "law" = true)
    (a4_law : PySem.W.keepIn K (.ref p_law) = true)
    (z_bool : PySem.W.nsIn K mainGlobals "bool" = some none)
    (z_enumerate : PySem.W.nsIn K mainGlobals "enumerate" = some none)
    (z_int : PySem.W.nsIn K mainGlobals "int" = some none)
    (z_isinstance : PySem.W.nsIn K mainGlobals "isinstance" = some none)
    (z_len : PySem.W.nsIn K mainGlobals "len" = some none)
    (z_list : PySem.W.nsIn K mainGlobals "list" = some none)
    (z_range : PySem.W.nsIn K mainGlobals "range" = some none)
    (z_str : PySem.W.nsIn K mainGlobals "str" = some none)
    (z_tuple : PySem.W.nsIn K mainGlobals "tuple" = some none)
    (z_zip : PySem.W.nsIn K mainGlobals "zip" = some none)
    (k_COLOURS : PySem.W.nsIn K mainGlobals "COLOURS" = some (some (.str "abcdefgh." t_COLOURS)))
    (k_CONTROLS : PySem.W.nsIn K mainGlobals "CONTROLS" = some (some (.str "\n\t" t_CONTROLS)))
    (k1_ENDS : PySem.W.nsIn K mainGlobals "ENDS" = some (some (.ref q_ENDS)))
    (k2_ENDS : K.lookup q_ENDS = some ⟨.type "dict", none, .dict es_ENDS n_ENDS, #[]⟩)
    (k4_ENDS : (q_ENDS == sysModules) = false)
    (k3_ENDS : KdVals w.params es_ENDS.toList kv_ENDS)
    (k_FIRST : PySem.W.nsIn K mainGlobals "FIRST" = some (some (.str " " t_FIRST)))
    (k_LAST : PySem.W.nsIn K mainGlobals "LAST" = some (some (.str "}" t_LAST)))
    (k_MORE : PySem.W.nsIn K mainGlobals "MORE" = some (some (.str "more" t_MORE)))
    (k_MOST : PySem.W.nsIn K mainGlobals "MOST" = some (some (.int 200 t_MOST)))
    (k_PLAIN : PySem.W.nsIn K mainGlobals "PLAIN" = some (some (.str "." t_PLAIN)))
    (k_WHOLE : PySem.W.nsIn K mainGlobals "WHOLE" = some (some (.str "whole" t_WHOLE)))
    (pg_Reader : PySem.W.plainGet K c_Reader Str.empty = true)
    (hd_Reader : PySem.W.hasDictIn K c_Reader = true)
    (po_Reader : PySem.W.plainOver K c_Reader = true)
    (sa_Reader : PySem.W.findIn K (.ref c_Reader) "__setattr__" = some (some (.builtin "object.__setattr__")))
    (pg_Maker : PySem.W.plainGet K c_Maker Str.empty = true)
    (hd_Maker : PySem.W.hasDictIn K c_Maker = true)
    (po_Maker : PySem.W.plainOver K c_Maker = true)
    (sa_Maker : PySem.W.findIn K (.ref c_Maker) "__setattr__" = some (some (.builtin "object.__setattr__")))
    (na_Reader_kept : PySem.W.findIn K (.ref c_Reader) "kept" = some none)
    (na_Reader_place : PySem.W.findIn K (.ref c_Reader) "place" = some none)
    (mi_Reader : PySem.W.makesIn K c_Reader = true)
    (kc_Reader : PySem.W.keepIn K (.ref c_Reader) = true)
    (na_Maker_most : PySem.W.findIn K (.ref c_Maker) "most" = some none)
    (na_Maker_row : PySem.W.findIn K (.ref c_Maker) "row" = some none)
    (na_Maker_ink : PySem.W.findIn K (.ref c_Maker) "ink" = some none)
    (na_Maker_ground : PySem.W.findIn K (.ref c_Maker) "ground" = some none)
    (na_Maker_stale : PySem.W.findIn K (.ref c_Maker) "stale" = some none)
    (na_Maker_more : PySem.W.findIn K (.ref c_Maker) "more" = some none)
    (mi_Maker : PySem.W.makesIn K c_Maker = true)
    (kc_Maker : PySem.W.keepIn K (.ref c_Maker) = true) :
    ∃ fd : FuncData, (∀ (s : Shared) (v : Value), BindsTo s fd ⟨[v], []⟩ [("_law_script", v)]) ∧ ∀ base : Heap, K.In base → base.Ns mainGlobals mg → FnOk l.prog w K mg base CX0 7 fa fd ["_law_script"] (spLaw K) := by
  have e := hfa.symm.trans (PySem.W.mg_of X G a1_law)
  cases e
  have Fis_sign := fun_mk (st := s_is_sign) a2_is_sign a3_is_sign a4_is_sign
  have Fis_colour := fun_mk (st := s_is_colour) a2_is_colour a3_is_colour a4_is_colour
  have Fchecked := fun_mk (st := s_checked) a2_checked a3_checked a4_checked
  have Fsign_item := fun_mk (st := s_sign_item) a2_sign_item a3_sign_item a4_sign_item
  have Fbegins_mark := fun_mk (st := s_begins_mark) a2_begins_mark a3_begins_mark a4_begins_mark
  have Fmark_item := fun_mk (st := s_mark_item) a2_mark_item a3_mark_item a4_mark_item
  have FReader_init := fun_mk (st := s_Reader_init) a2_Reader_init a3_Reader_init a4_Reader_init
  have FReader_told := fun_mk (st := s_Reader_told) a2_Reader_told a3_Reader_told a4_Reader_told
  have FReader_take := fun_mk (st := s_Reader_take) a2_Reader_take a3_Reader_take a4_Reader_take
  have FReader_feed := fun_mk (st := s_Reader_feed) a2_Reader_feed a3_Reader_feed a4_Reader_feed
  have FReader_finish := fun_mk (st := s_Reader_finish) a2_Reader_finish a3_Reader_finish a4_Reader_finish
  have Fitems_of := fun_mk (st := s_items_of) a2_items_of a3_items_of a4_items_of
  have Fchecked_most := fun_mk (st := s_checked_most) a2_checked_most a3_checked_most a4_checked_most
  have FMaker_init := fun_mk (st := s_Maker_init) a2_Maker_init a3_Maker_init a4_Maker_init
  have FMaker_open_letters := fun_mk (st := s_Maker_open_letters) a2_Maker_open_letters a3_Maker_open_letters a4_Maker_open_letters
  have FMaker_make_plain := fun_mk (st := s_Maker_make_plain) a2_Maker_make_plain a3_Maker_make_plain a4_Maker_make_plain
  have FMaker_tell_part := fun_mk (st := s_Maker_tell_part) a2_Maker_tell_part a3_Maker_tell_part a4_Maker_tell_part
  have FMaker_put_sign := fun_mk (st := s_Maker_put_sign) a2_Maker_put_sign a3_Maker_put_sign a4_Maker_put_sign
  have FMaker_put := fun_mk (st := s_Maker_put) a2_Maker_put a3_Maker_put a4_Maker_put
  have Frows_of := fun_mk (st := s_rows_of) a2_rows_of a3_rows_of a4_rows_of
  have Flw_cell := fun_mk (st := s_lw_cell) a2_lw_cell a3_lw_cell a4_lw_cell
  have Flw_mix := fun_mk (st := s_lw_mix) a2_lw_mix a3_lw_mix a4_lw_mix
  have Flw_signs := fun_mk (st := s_lw_signs) a2_lw_signs a3_lw_signs a4_lw_signs
  have Flw_item := fun_mk (st := s_lw_item) a2_lw_item a3_lw_item a4_lw_item
  have Flw_items := fun_mk (st := s_lw_items) a2_lw_items a3_lw_items a4_lw_items
  have Flw_parts := fun_mk (st := s_lw_parts) a2_lw_parts a3_lw_parts a4_lw_parts
  have Flw_whole := fun_mk (st := s_lw_whole) a2_lw_whole a3_lw_whole a4_lw_whole
  have Flw_letters_right := fun_mk (st := s_lw_letters_right) a2_lw_letters_right a3_lw_letters_right a4_lw_letters_right
  have Flw_parts_right := fun_mk (st := s_lw_parts_right) a2_lw_parts_right a3_lw_parts_right a4_lw_parts_right
  have Flw_piece := fun_mk (st := s_lw_piece) a2_lw_piece a3_lw_piece a4_lw_piece
  have Flaw := fun_mk (st := s_law) a2_law a3_law a4_law
  let T : Tx K mg w := {
    cl := fun i => if i = 3 then c_Reader else if i = 4 then c_Maker else 0,
    a_is_sign := p_is_sign,
    d_is_sign := _,
    f_is_sign := Fis_sign,
    b_is_sign := Fis_sign.binds (ps := ["thing"]) fun _ _ _ _ _ _ us hl => match us, hl with | [_], _ => rfl,
    g_is_sign := PySem.W.mg_of X G a1_is_sign,
    a_is_colour := p_is_colour,
    d_is_colour := _,
    f_is_colour := Fis_colour,
    b_is_colour := Fis_colour.binds (ps := ["thing"]) fun _ _ _ _ _ _ us hl => match us, hl with | [_], _ => rfl,
    g_is_colour := PySem.W.mg_of X G a1_is_colour,
    a_checked := p_checked,
    d_checked := _,
    f_checked := Fchecked,
    b_checked := Fchecked.binds (ps := ["text"]) fun _ _ _ _ _ _ us hl => match us, hl with | [_], _ => rfl,
    g_checked := PySem.W.mg_of X G a1_checked,
    a_sign_item := p_sign_item,
    d_sign_item := _,
    f_sign_item := Fsign_item,
    b_sign_item := Fsign_item.binds (ps := ["place", "sign"]) fun _ _ _ _ _ _ us hl => match us, hl with | [_, _], _ => rfl,
    g_sign_item := PySem.W.mg_of X G a1_sign_item,
    a_begins_mark := p_begins_mark,
    d_begins_mark := _,
    f_begins_mark := Fbegins_mark,
    b_begins_mark := Fbegins_mark.binds (ps := ["text"]) fun _ _ _ _ _ _ us hl => match us, hl with | [_], _ => rfl,
    g_begins_mark := PySem.W.mg_of X G a1_begins_mark,
    a_mark_item := p_mark_item,
    d_mark_item := _,
    f_mark_item := Fmark_item,
    b_mark_item := Fmark_item.binds (ps := ["place", "text"]) fun _ _ _ _ _ _ us hl => match us, hl with | [_, _], _ => rfl,
    g_mark_item := PySem.W.mg_of X G a1_mark_item,
    a_Reader_init := p_Reader_init,
    d_Reader_init := _,
    f_Reader_init := FReader_init,
    b_Reader_init := FReader_init.binds (ps := ["self"]) fun _ _ _ _ _ _ us hl => match us, hl with | [_], _ => rfl,
    a_Reader_told := p_Reader_told,
    d_Reader_told := _,
    f_Reader_told := FReader_told,
    b_Reader_told := FReader_told.binds (ps := ["self", "many"]) fun _ _ _ _ _ _ us hl => match us, hl with | [_, _], _ => rfl,
    a_Reader_take := p_Reader_take,
    d_Reader_take := _,
    f_Reader_take := FReader_take,
    b_Reader_take := FReader_take.binds (ps := ["self", "sign"]) fun _ _ _ _ _ _ us hl => match us, hl with | [_, _], _ => rfl,
    a_Reader_feed := p_Reader_feed,
    d_Reader_feed := _,
    f_Reader_feed := FReader_feed,
    b_Reader_feed := FReader_feed.binds (ps := ["self", "piece"]) fun _ _ _ _ _ _ us hl => match us, hl with | [_, _], _ => rfl,
    a_Reader_finish := p_Reader_finish,
    d_Reader_finish := _,
    f_Reader_finish := FReader_finish,
    b_Reader_finish := FReader_finish.binds (ps := ["self"]) fun _ _ _ _ _ _ us hl => match us, hl with | [_], _ => rfl,
    a_items_of := p_items_of,
    d_items_of := _,
    f_items_of := Fitems_of,
    b_items_of := Fitems_of.binds (ps := ["text"]) fun _ _ _ _ _ _ us hl => match us, hl with | [_], _ => rfl,
    g_items_of := PySem.W.mg_of X G a1_items_of,
    a_checked_most := p_checked_most,
    d_checked_most := _,
    f_checked_most := Fchecked_most,
    b_checked_most := Fchecked_most.binds (ps := ["most"]) fun _ _ _ _ _ _ us hl => match us, hl with | [_], _ => rfl,
    g_checked_most := PySem.W.mg_of X G a1_checked_most,
    a_Maker_init := p_Maker_init,
    d_Maker_init := _,
    f_Maker_init := FMaker_init,
    b_Maker_init := FMaker_init.binds (ps := ["self", "most"]) fun _ _ _ _ _ _ us hl => match us, hl with | [_, _], _ => rfl,
    a_Maker_open_letters := p_Maker_open_letters,
    d_Maker_open_letters := _,
    f_Maker_open_letters := FMaker_open_letters,
    b_Maker_open_letters := FMaker_open_letters.binds (ps := ["self"]) fun _ _ _ _ _ _ us hl => match us, hl with | [_], _ => rfl,
    a_Maker_make_plain := p_Maker_make_plain,
    d_Maker_make_plain := _,
    f_Maker_make_plain := FMaker_make_plain,
    b_Maker_make_plain := FMaker_make_plain.binds (ps := ["self"]) fun _ _ _ _ _ _ us hl => match us, hl with | [_], _ => rfl,
    a_Maker_tell_part := p_Maker_tell_part,
    d_Maker_tell_part := _,
    f_Maker_tell_part := FMaker_tell_part,
    b_Maker_tell_part := FMaker_tell_part.binds (ps := ["self", "word"]) fun _ _ _ _ _ _ us hl => match us, hl with | [_, _], _ => rfl,
    a_Maker_put_sign := p_Maker_put_sign,
    d_Maker_put_sign := _,
    f_Maker_put_sign := FMaker_put_sign,
    b_Maker_put_sign := FMaker_put_sign.binds (ps := ["self", "sign", "place"]) fun _ _ _ _ _ _ us hl => match us, hl with | [_, _, _], _ => rfl,
    a_Maker_put := p_Maker_put,
    d_Maker_put := _,
    f_Maker_put := FMaker_put,
    b_Maker_put := FMaker_put.binds (ps := ["self", "item"]) fun _ _ _ _ _ _ us hl => match us, hl with | [_, _], _ => rfl,
    a_rows_of := p_rows_of,
    d_rows_of := _,
    f_rows_of := Frows_of,
    b_rows_of := Frows_of.binds (ps := ["text", "most"]) fun _ _ _ _ _ _ us hl => match us, hl with | [_, _], _ => rfl,
    g_rows_of := PySem.W.mg_of X G a1_rows_of,
    a_lw_cell := p_lw_cell,
    d_lw_cell := _,
    f_lw_cell := Flw_cell,
    b_lw_cell := Flw_cell.binds (ps := ["_law_script", "_law_k"]) fun _ _ _ _ _ _ us hl => match us, hl with | [_, _], _ => rfl,
    g_lw_cell := PySem.W.mg_of X G a1_lw_cell,
    a_lw_mix := p_lw_mix,
    d_lw_mix := _,
    f_lw_mix := Flw_mix,
    b_lw_mix := Flw_mix.binds (ps := ["_law_cell_here", "_law_k"]) fun _ _ _ _ _ _ us hl => match us, hl with | [_, _], _ => rfl,
    g_lw_mix := PySem.W.mg_of X G a1_lw_mix,
    a_lw_signs := p_lw_signs,
    d_lw_signs := _,
    f_lw_signs := Flw_signs,
    b_lw_signs := Flw_signs.binds (ps := []) fun _ _ _ _ _ _ us hl => match us, hl with | [], _ => rfl,
    g_lw_signs := PySem.W.mg_of X G a1_lw_signs,
    a_lw_item := p_lw_item,
    d_lw_item := _,
    f_lw_item := Flw_item,
    b_lw_item := Flw_item.binds (ps := ["_law_text", "_law_at"]) fun _ _ _ _ _ _ us hl => match us, hl with | [_, _], _ => rfl,
    g_lw_item := PySem.W.mg_of X G a1_lw_item,
    a_lw_items := p_lw_items,
    d_lw_items := _,
    f_lw_items := Flw_items,
    b_lw_items := Flw_items.binds (ps := ["_law_text"]) fun _ _ _ _ _ _ us hl => match us, hl with | [_], _ => rfl,
    g_lw_items := PySem.W.mg_of X G a1_lw_items,
    a_lw_parts := p_lw_parts,
    d_lw_parts := _,
    f_lw_parts := Flw_parts,
    b_lw_parts := Flw_parts.binds (ps := ["_law_items_here", "_law_most"]) fun _ _ _ _ _ _ us hl => match us, hl with | [_, _], _ => rfl,
    g_lw_parts := PySem.W.mg_of X G a1_lw_parts,
    a_lw_whole := p_lw_whole,
    d_lw_whole := _,
    f_lw_whole := Flw_whole,
    b_lw_whole := Flw_whole.binds (ps := ["_law_found"]) fun _ _ _ _ _ _ us hl => match us, hl with | [_], _ => rfl,
    g_lw_whole := PySem.W.mg_of X G a1_lw_whole,
    a_lw_letters_right := p_lw_letters_right,
    d_lw_letters_right := _,
    f_lw_letters_right := Flw_letters_right,
    b_lw_letters_right := Flw_letters_right.binds (ps := ["_law_found", "_law_due"]) fun _ _ _ _ _ _ us hl => match us, hl with | [_, _], _ => rfl,
    g_lw_letters_right := PySem.W.mg_of X G a1_lw_letters_right,
    a_lw_parts_right := p_lw_parts_right,
    d_lw_parts_right := _,
    f_lw_parts_right := Flw_parts_right,
    b_lw_parts_right := Flw_parts_right.binds (ps := ["_law_found", "_law_due"]) fun _ _ _ _ _ _ us hl => match us, hl with | [_, _], _ => rfl,
    g_lw_parts_right := PySem.W.mg_of X G a1_lw_parts_right,
    a_lw_piece := p_lw_piece,
    d_lw_piece := _,
    f_lw_piece := Flw_piece,
    b_lw_piece := Flw_piece.binds (ps := ["_law_cell_here", "_law_ends"]) fun _ _ _ _ _ _ us hl => match us, hl with | [_, _], _ => rfl,
    g_lw_piece := PySem.W.mg_of X G a1_lw_piece,
    a_law := fa,
    d_law := _,
    f_law := Flaw,
    b_law := Flaw.binds (ps := ["_law_script"]) fun _ _ _ _ _ _ us hl => match us, hl with | [_], _ => rfl,
    g_law := PySem.W.mg_of X G a1_law,
    z_bool := PySem.W.mg_none_of X G z_bool,
    z_enumerate := PySem.W.mg_none_of X G z_enumerate,
    z_int := PySem.W.mg_none_of X G z_int,
    z_isinstance := PySem.W.mg_none_of X G z_isinstance,
    z_len := PySem.W.mg_none_of X G z_len,
    z_list := PySem.W.mg_none_of X G z_list,
    z_range := PySem.W.mg_none_of X G z_range,
    z_str := PySem.W.mg_none_of X G z_str,
    z_tuple := PySem.W.mg_none_of X G z_tuple,
    z_zip := PySem.W.mg_none_of X G z_zip,
    k_COLOURS := ⟨_, PySem.W.mg_of X G k_COLOURS, _, by rfl⟩,
    k_CONTROLS := ⟨_, PySem.W.mg_of X G k_CONTROLS, _, by rfl⟩,
    k_ENDS := ⟨_, _, _, PySem.W.mg_of X G k1_ENDS, k2_ENDS, k4_ENDS, k3_ENDS⟩,
    k_FIRST := ⟨_, PySem.W.mg_of X G k_FIRST, _, by rfl⟩,
    k_LAST := ⟨_, PySem.W.mg_of X G k_LAST, _, by rfl⟩,
    k_MORE := ⟨_, PySem.W.mg_of X G k_MORE, _, by rfl⟩,
    k_MOST := ⟨_, PySem.W.mg_of X G k_MOST, _, by rfl⟩,
    k_PLAIN := ⟨_, PySem.W.mg_of X G k_PLAIN, _, by rfl⟩,
    k_WHOLE := ⟨_, PySem.W.mg_of X G k_WHOLE, _, by rfl⟩,
    cls_Reader := ⟨pg_Reader, hd_Reader, po_Reader, sa_Reader⟩,
    gc_Reader := PySem.W.mg_of X G gc_Reader,
    cls_Maker := ⟨pg_Maker, hd_Maker, po_Maker, sa_Maker⟩,
    gc_Maker := PySem.W.mg_of X G gc_Maker,
    na_Reader_kept := na_Reader_kept,
    na_Reader_place := na_Reader_place,
    me_Reader_told := ⟨a1_Reader_told, a5_Reader_told, a4_Reader_told⟩,
    me_Reader_take := ⟨a1_Reader_take, a5_Reader_take, a4_Reader_take⟩,
    mk_Reader := ⟨mi_Reader, a1_Reader_init, a5_Reader_init, kc_Reader⟩,
    me_Reader_feed := ⟨a1_Reader_feed, a5_Reader_feed, a4_Reader_feed⟩,
    me_Reader_finish := ⟨a1_Reader_finish, a5_Reader_finish, a4_Reader_finish⟩,
    na_Maker_most := na_Maker_most,
    na_Maker_row := na_Maker_row,
    na_Maker_ink := na_Maker_ink,
    na_Maker_ground := na_Maker_ground,
    na_Maker_stale := na_Maker_stale,
    na_Maker_more := na_Maker_more,
    me_Maker_tell_part := ⟨a1_Maker_tell_part, a5_Maker_tell_part, a4_Maker_tell_part⟩,
    me_Maker_make_plain := ⟨a1_Maker_make_plain, a5_Maker_make_plain, a4_Maker_make_plain⟩,
    me_Maker_put_sign := ⟨a1_Maker_put_sign, a5_Maker_put_sign, a4_Maker_put_sign⟩,
    mk_Maker := ⟨mi_Maker, a1_Maker_init, a5_Maker_init, kc_Maker⟩,
    me_Maker_put := ⟨a1_Maker_put, a5_Maker_put, a4_Maker_put⟩,
    me_Maker_open_letters := ⟨a1_Maker_open_letters, a5_Maker_open_letters, a4_Maker_open_letters⟩ }
  exact ⟨PySem.W.fnOf "law" "law" (defArgs s_law) (defBody s_law) (defScope s_law) .none kV_law dc_law pm_law an_law cd_law ct_law, fun s v => .of_eq rfl, fun base _ _ => law_ok (ok_law T) LT⟩
end LW
open PySem PySem.W PyProof.Rows
set_option maxHeartbeats 0 in
theorem PySem.Challenge.cw_outweave_k22_inks_and_grounds_holds : PySem.Challenge.rw_outweave_k22_inks_and_grounds.Holds := by
  w_on; o_law; k_head; (case hw => w_witness2)
  k_fill
  refine L2.walk_ofB (l := PySem.Challenge.rw_outweave_k22_inks_and_grounds) (n := 63) (k := 7) (x := "_law_script") (CX := fun _ => L2.CX0) (sp := fun w => LI.spLaw _) rfl (by decide) rfl ⟨rfl, by decide, by decide⟩ (fun w h Y => PySem.W.kIn_of Y) ?F (fun _ _ a ns hl hb _ hS => ⟨a, ns, rfl, hS, hl, hb, fun _ => rfl⟩) (fun _ _ _ _ _ h => h)
  case F =>
    intro w mg fa h KX G hmg
    refine' LW.all_mk LW.law_true KX G hmg ?gc_Reader ?gc_Maker ?a1_is_sign ?a2_is_sign ?a3_is_sign ?a4_is_sign ?a1_is_colour ?a2_is_colour ?a3_is_colour ?a4_is_colour ?a1_checked ?a2_checked ?a3_checked ?a4_checked ?a1_sign_item ?a2_sign_item ?a3_sign_item ?a4_sign_item ?a1_begins_mark ?a2_begins_mark ?a3_begins_mark ?a4_begins_mark ?a1_mark_item ?a2_mark_item ?a3_mark_item ?a4_mark_item ?a1_Reader_init ?a5_Reader_init ?a2_Reader_init ?a3_Reader_init ?a4_Reader_init ?a1_Reader_told ?a5_Reader_told ?a2_Reader_told ?a3_Reader_told ?a4_Reader_told ?a1_Reader_take ?a5_Reader_take ?a2_Reader_take ?a3_Reader_take ?a4_Reader_take ?a1_Reader_feed ?a5_Reader_feed ?a2_Reader_feed ?a3_Reader_feed ?a4_Reader_feed ?a1_Reader_finish ?a5_Reader_finish ?a2_Reader_finish ?a3_Reader_finish ?a4_Reader_finish ?a1_items_of ?a2_items_of ?a3_items_of ?a4_items_of ?a1_checked_most ?a2_checked_most ?a3_checked_most ?a4_checked_most ?a1_Maker_init ?a5_Maker_init ?a2_Maker_init ?a3_Maker_init ?a4_Maker_init ?a1_Maker_open_letters ?a5_Maker_open_letters ?a2_Maker_open_letters ?a3_Maker_open_letters ?a4_Maker_open_letters ?a1_Maker_make_plain ?a5_Maker_make_plain ?a2_Maker_make_plain ?a3_Maker_make_plain ?a4_Maker_make_plain ?a1_Maker_tell_part ?a5_Maker_tell_part ?a2_Maker_tell_part ?a3_Maker_tell_part ?a4_Maker_tell_part ?a1_Maker_put_sign ?a5_Maker_put_sign ?a2_Maker_put_sign ?a3_Maker_put_sign ?a4_Maker_put_sign ?a1_Maker_put ?a5_Maker_put ?a2_Maker_put ?a3_Maker_put ?a4_Maker_put ?a1_rows_of ?a2_rows_of ?a3_rows_of ?a4_rows_of ?a1_lw_cell ?a2_lw_cell ?a3_lw_cell ?a4_lw_cell ?a1_lw_mix ?a2_lw_mix ?a3_lw_mix ?a4_lw_mix ?a1_lw_signs ?a2_lw_signs ?a3_lw_signs ?a4_lw_signs ?a1_lw_item ?a2_lw_item ?a3_lw_item ?a4_lw_item ?a1_lw_items ?a2_lw_items ?a3_lw_items ?a4_lw_items ?a1_lw_parts ?a2_lw_parts ?a3_lw_parts ?a4_lw_parts ?a1_lw_whole ?a2_lw_whole ?a3_lw_whole ?a4_lw_whole ?a1_lw_letters_right ?a2_lw_letters_right ?a3_lw_letters_right ?a4_lw_letters_right ?a1_lw_parts_right ?a2_lw_parts_right ?a3_lw_parts_right ?a4_lw_parts_right ?a1_lw_piece ?a2_lw_piece ?a3_lw_piece ?a4_lw_piece ?a1_law ?a2_law ?a3_law ?a4_law ?z_bool ?z_enumerate ?z_int ?z_isinstance ?z_len ?z_list ?z_range ?z_str ?z_tuple ?z_zip ?k_COLOURS ?k_CONTROLS ?k1_ENDS ?k2_ENDS ?k4_ENDS ?k3_ENDS ?k_FIRST ?k_LAST ?k_MORE ?k_MOST ?k_PLAIN ?k_WHOLE ?pg_Reader ?hd_Reader ?po_Reader ?sa_Reader ?pg_Maker ?hd_Maker ?po_Maker ?sa_Maker ?na_Reader_kept ?na_Reader_place ?mi_Reader ?kc_Reader ?na_Maker_most ?na_Maker_row ?na_Maker_ink ?na_Maker_ground ?na_Maker_stale ?na_Maker_more ?mi_Maker ?kc_Maker
    (case gc_Reader => k_is); (case gc_Maker => k_is); (case a1_is_sign => k_is); (case a2_is_sign => k_is); (case a3_is_sign => k_is); (case a4_is_sign => k_is); (case a1_is_colour => k_is); (case a2_is_colour => k_is); (case a3_is_colour => k_is); (case a4_is_colour => k_is); (case a1_checked => k_is); (case a2_checked => k_is); (case a3_checked => k_is); (case a4_checked => k_is); (case a1_sign_item => k_is); (case a2_sign_item => k_is); (case a3_sign_item => k_is); (case a4_sign_item => k_is); (case a1_begins_mark => k_is); (case a2_begins_mark => k_is); (case a3_begins_mark => k_is); (case a4_begins_mark => k_is); (case a1_mark_item => k_is); (case a2_mark_item => k_is); (case a3_mark_item => k_is); (case a4_mark_item => k_is); (case a1_Reader_init => k_is); (case a5_Reader_init => k_is); (case a2_Reader_init => k_is); (case a3_Reader_init => k_is); (case a4_Reader_init => k_is); (case a1_Reader_told => k_is); (case a5_Reader_told => k_is); (case a2_Reader_told => k_is); (case a3_Reader_told => k_is); (case a4_Reader_told => k_is); (case a1_Reader_take => k_is); (case a5_Reader_take => k_is); (case a2_Reader_take => k_is); (case a3_Reader_take => k_is); (case a4_Reader_take => k_is); (case a1_Reader_feed => k_is); (case a5_Reader_feed => k_is); (case a2_Reader_feed => k_is); (case a3_Reader_feed => k_is); (case a4_Reader_feed => k_is); (case a1_Reader_finish => k_is); (case a5_Reader_finish => k_is); (case a2_Reader_finish => k_is); (case a3_Reader_finish => k_is); (case a4_Reader_finish => k_is); (case a1_items_of => k_is); (case a2_items_of => k_is); (case a3_items_of => k_is); (case a4_items_of => k_is); (case a1_checked_most => k_is); (case a2_checked_most => k_is); (case a3_checked_most => k_is); (case a4_checked_most => k_is); (case a1_Maker_init => k_is); (case a5_Maker_init => k_is); (case a2_Maker_init => k_is); (case a3_Maker_init => k_is); (case a4_Maker_init => k_is); (case a1_Maker_open_letters => k_is); (case a5_Maker_open_letters => k_is); (case a2_Maker_open_letters => k_is); (case a3_Maker_open_letters => k_is); (case a4_Maker_open_letters => k_is); (case a1_Maker_make_plain => k_is); (case a5_Maker_make_plain => k_is); (case a2_Maker_make_plain => k_is); (case a3_Maker_make_plain => k_is); (case a4_Maker_make_plain => k_is); (case a1_Maker_tell_part => k_is); (case a5_Maker_tell_part => k_is); (case a2_Maker_tell_part => k_is); (case a3_Maker_tell_part => k_is); (case a4_Maker_tell_part => k_is); (case a1_Maker_put_sign => k_is); (case a5_Maker_put_sign => k_is); (case a2_Maker_put_sign => k_is); (case a3_Maker_put_sign => k_is); (case a4_Maker_put_sign => k_is); (case a1_Maker_put => k_is); (case a5_Maker_put => k_is); (case a2_Maker_put => k_is); (case a3_Maker_put => k_is); (case a4_Maker_put => k_is); (case a1_rows_of => k_is); (case a2_rows_of => k_is); (case a3_rows_of => k_is); (case a4_rows_of => k_is); (case a1_lw_cell => k_is); (case a2_lw_cell => k_is); (case a3_lw_cell => k_is); (case a4_lw_cell => k_is); (case a1_lw_mix => k_is); (case a2_lw_mix => k_is); (case a3_lw_mix => k_is); (case a4_lw_mix => k_is); (case a1_lw_signs => k_is); (case a2_lw_signs => k_is); (case a3_lw_signs => k_is); (case a4_lw_signs => k_is); (case a1_lw_item => k_is); (case a2_lw_item => k_is); (case a3_lw_item => k_is); (case a4_lw_item => k_is); (case a1_lw_items => k_is); (case a2_lw_items => k_is); (case a3_lw_items => k_is); (case a4_lw_items => k_is); (case a1_lw_parts => k_is); (case a2_lw_parts => k_is); (case a3_lw_parts => k_is); (case a4_lw_parts => k_is); (case a1_lw_whole => k_is); (case a2_lw_whole => k_is); (case a3_lw_whole => k_is); (case a4_lw_whole => k_is); (case a1_lw_letters_right => k_is); (case a2_lw_letters_right => k_is); (case a3_lw_letters_right => k_is); (case a4_lw_letters_right => k_is); (case a1_lw_parts_right => k_is); (case a2_lw_parts_right => k_is); (case a3_lw_parts_right => k_is); (case a4_lw_parts_right => k_is); (case a1_lw_piece => k_is); (case a2_lw_piece => k_is); (case a3_lw_piece => k_is); (case a4_lw_piece => k_is); (case a1_law => k_is); (case a2_law => k_is); (case a3_law => k_is); (case a4_law => k_is); (case z_bool => k_is); (case z_enumerate => k_is); (case z_int => k_is); (case z_isinstance => k_is); (case z_len => k_is); (case z_list => k_is); (case z_range => k_is); (case z_str => k_is); (case z_tuple => k_is); (case z_zip => k_is); (case k_COLOURS => k_is); (case k_CONTROLS => k_is); (case k1_ENDS => k_is); (case k2_ENDS => k_is); (case k4_ENDS => rfl); (case k3_ENDS => repeat' (first | exact True.intro | exact ⟨_, rfl, rfl⟩ | exact ⟨_, rfl⟩ | refine ⟨?_, ?_, ?_⟩)); (case k_FIRST => k_is); (case k_LAST => k_is); (case k_MORE => k_is); (case k_MOST => k_is); (case k_PLAIN => k_is); (case k_WHOLE => k_is); (case pg_Reader => k_is); (case hd_Reader => k_is); (case po_Reader => k_is); (case sa_Reader => k_is); (case pg_Maker => k_is); (case hd_Maker => k_is); (case po_Maker => k_is); (case sa_Maker => k_is); (case na_Reader_kept => k_is); (case na_Reader_place => k_is); (case mi_Reader => k_is); (case kc_Reader => k_is); (case na_Maker_most => k_is); (case na_Maker_row => k_is); (case na_Maker_ink => k_is); (case na_Maker_ground => k_is); (case na_Maker_stale => k_is); (case na_Maker_more => k_is); (case mi_Maker => k_is); (case kc_Maker => k_is)
