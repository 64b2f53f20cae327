import PyProof.Rows.All
import Wide.All
import OpenK.AllK
import Wide.FinOn
import HandS.ForMost
import HandS.ForExc
import HandS.Wide
import HandS.EndBits
import HandS.Flow
import HandS.Style
import HandS.Zip
import HandS.Deep
import HandS.Codes
import HandS.IsInst
import HandS.FStr
import HandS.Conv
import HandS.TupAny
import HandS.Walk
import HandS.Dict
import PySem.Challenge.RW_outweave_k11_signs_and_names
set_option Elab.async false
set_option linter.all false
set_option maxRecDepth 100000
set_option maxHeartbeats 4000000
/-! LI: data as trees with owners; a def's worth as a plain function of data. -/
namespace LI
open PySem L2

/-- data: a tree; at a list, a dict, an instance a flag tells whether it is owned (may be changed) -/
inductive D where
  | gone
  | non
  | bl (b : Bool)
  | int (i : Int)
  | str (s : List Nat)
  | scr (ns : List Int)
  | kst (ss : List (List Nat))
  | tup (ds : List D)
  | lst (o : Bool) (ds : List D)
  | dK (o : Bool) (ks : List Key) (ds : List D)
  | dT (o : Bool) (ks : List (List Key)) (ds : List D)
  | obj (o : Bool) (c : Nat) (fs : List Str) (ds : List D)

abbrev FP := Addr → Nat
def one (a : Addr) : FP := fun b => if b = a then 1 else 0
def fz : FP := fun _ => 0
def fa (S T : FP) : FP := fun b => S b + T b
def Ex (H H' : Hp) : Prop := ∀ a o, H a = some o → H' a = some o
theorem Ex.refl (H : Hp) : Ex H H := fun _ _ h => h
theorem Ex.trans {H H1 H2 : Hp} (a : Ex H H1) (b : Ex H1 H2) : Ex H H2 := fun x o h => b x o (a x o h)

/-- the text's part and its classes by number -/
structure LC where
  K : PySem.W.Frag
  cl : Nat → Addr

mutual
def Rep (c : LC) (P H : Hp) : D → V → FP → Prop
  | .gone, _, S => S = fz
  | .non, v, S => v = .non ∧ S = fz
  | .bl b, v, S => v = .bl b ∧ S = fz
  | .int i, v, S => v = .int i ∧ S = fz
  | .str s, v, S => v = .str ⟨s.toArray⟩ ∧ S = fz
  | .scr ns, v, S => ∃ a, v = .ref a ∧ SqL c.K P a (ns.map V.int) ∧ S = fz
  | .kst ss, v, S => ∃ a, v = .ref a ∧ SqT c.K P a (ss.map fun s => V.str ⟨s.toArray⟩) ∧ S = fz
  | .tup ds, v, S => ∃ a xs, v = .ref a ∧ P a = some (.tup xs) ∧ RepL c P H ds xs S
  | .lst true ds, v, S => ∃ a xs T, v = .ref a ∧ H a = some (.lst xs) ∧ RepL c P H ds xs T ∧ S = fa (one a) T
  | .lst false ds, v, S => ∃ a xs, v = .ref a ∧ P a = some (.lst xs) ∧ RepL c P H ds xs S
  | .dK true ks ds, v, S => ∃ a xs T, v = .ref a ∧ H a = some (.dK (ks.zip xs)) ∧ ks.length = xs.length ∧ RepL c P H ds xs T ∧ S = fa (one a) T
  | .dK false ks ds, v, S => ∃ a xs, v = .ref a ∧ P a = some (.dK (ks.zip xs)) ∧ ks.length = xs.length ∧ RepL c P H ds xs S
  | .dT true ks ds, v, S => ∃ a xs T, v = .ref a ∧ H a = some (.dT (ks.zip xs)) ∧ ks.length = xs.length ∧ RepL c P H ds xs T ∧ S = fa (one a) T
  | .dT false ks ds, v, S => ∃ a xs, v = .ref a ∧ P a = some (.dT (ks.zip xs)) ∧ ks.length = xs.length ∧ RepL c P H ds xs S
  | .obj true k fs ds, v, S => ∃ a dx xs T, v = .ref a ∧ H a = some (.ins (c.cl k) dx (fs.zip xs)) ∧ fs.length = xs.length ∧ RepL c P H ds xs T ∧ S = fa (one a) T
  | .obj false k fs ds, v, S => ∃ a dx xs, v = .ref a ∧ P a = some (.ins (c.cl k) dx (fs.zip xs)) ∧ fs.length = xs.length ∧ RepL c P H ds xs S
def RepL (c : LC) (P H : Hp) : List D → List V → FP → Prop
  | [], xs, S => xs = [] ∧ S = fz
  | d :: ds, xs, S => ∃ y ys T U, xs = y :: ys ∧ Rep c P H d y T ∧ RepL c P H ds ys U ∧ S = fa T U
end

mutual
/-- nothing in it is owned -/
def frz : D → Bool
  | .tup ds => frzL ds
  | .lst o ds => !o && frzL ds
  | .dK o _ ds => !o && frzL ds
  | .dT o _ ds => !o && frzL ds
  | .obj o _ _ ds => !o && frzL ds
  | _ => true
def frzL : List D → Bool
  | [] => true
  | d :: ds => frz d && frzL ds
end
mutual
/-- the same, owned by none -/
def ice : D → D
  | .tup ds => .tup (iceL ds)
  | .lst _ ds => .lst false (iceL ds)
  | .dK _ ks ds => .dK false ks (iceL ds)
  | .dT _ ks ds => .dT false ks (iceL ds)
  | .obj _ k fs ds => .obj false k fs (iceL ds)
  | d => d
def iceL : List D → List D
  | [] => []
  | d :: ds => ice d :: iceL ds
end
theorem fa_fz (S : FP) : fa S fz = S := by funext b; simp [fa, fz]
theorem fz_fa (S : FP) : fa fz S = S := by funext b; simp [fa, fz]

theorem sqt_mono {K : PySem.W.Frag} {H H' : Hp} {a : Addr} {xs : List V} (e : Ex H H') (h : SqT K H a xs) : SqT K H' a xs := by
  rcases h with (h | ⟨o, h⟩) | h
  · exact .inl (.inl (e _ _ h))
  · exact .inl (.inr ⟨o, e _ _ h⟩)
  · exact .inr h
theorem sql_mono {K : PySem.W.Frag} {H H' : Hp} {a : Addr} {xs : List V} (e : Ex H H') (h : SqL K H a xs) : SqL K H' a xs := by
  rcases h with (h | ⟨o, h⟩) | h
  · exact .inl (.inl (e _ _ h))
  · exact .inl (.inr ⟨o, e _ _ h⟩)
  · exact .inr h

mutual
theorem Rep.mono {c : LC} {P H P' H' : Hp} (eP : Ex P P') : ∀ (d : D) (v : V) (S : FP), (∀ a o, 0 < S a → H a = some o → H' a = some o) → Rep c P H d v S → Rep c P' H' d v S
  | .gone, v, S, _, h => h
  | .non, v, S, _, h => h
  | .bl _, v, S, _, h => h
  | .int _, v, S, _, h => h
  | .str _, v, S, _, h => h
  | .scr ns, v, S, k, ⟨a, e, q, z⟩ => ⟨a, e, sql_mono eP q, z⟩
  | .kst ss, v, S, k, ⟨a, e, q, z⟩ => ⟨a, e, sqt_mono eP q, z⟩
  | .tup ds, v, S, k, ⟨a, xs, e, q, r⟩ => ⟨a, xs, e, eP _ _ q, RepL.mono eP ds xs S k r⟩
  | .lst true ds, v, S, k, ⟨a, xs, T, e, q, r, f⟩ => ⟨a, xs, T, e, k _ _ (by rw [f]; simp [fa, one]; omega) q, RepL.mono eP ds xs T (fun b o hb => k b o (by rw [f]; simp only [fa]; omega)) r, f⟩
  | .lst false ds, v, S, k, ⟨a, xs, e, q, r⟩ => ⟨a, xs, e, eP _ _ q, RepL.mono eP ds xs S k r⟩
  | .dK true ks ds, v, S, k, ⟨a, xs, T, e, q, n, r, f⟩ => ⟨a, xs, T, e, k _ _ (by rw [f]; simp [fa, one]; omega) q, n, RepL.mono eP ds xs T (fun b o hb => k b o (by rw [f]; simp only [fa]; omega)) r, f⟩
  | .dK false ks ds, v, S, k, ⟨a, xs, e, q, n, r⟩ => ⟨a, xs, e, eP _ _ q, n, RepL.mono eP ds xs S k r⟩
  | .dT true ks ds, v, S, k, ⟨a, xs, T, e, q, n, r, f⟩ => ⟨a, xs, T, e, k _ _ (by rw [f]; simp [fa, one]; omega) q, n, RepL.mono eP ds xs T (fun b o hb => k b o (by rw [f]; simp only [fa]; omega)) r, f⟩
  | .dT false ks ds, v, S, k, ⟨a, xs, e, q, n, r⟩ => ⟨a, xs, e, eP _ _ q, n, RepL.mono eP ds xs S k r⟩
  | .obj true _ fs ds, v, S, k, ⟨a, dx, xs, T, e, q, n, r, f⟩ => ⟨a, dx, xs, T, e, k _ _ (by rw [f]; simp [fa, one]; omega) q, n, RepL.mono eP ds xs T (fun b o hb => k b o (by rw [f]; simp only [fa]; omega)) r, f⟩
  | .obj false _ fs ds, v, S, k, ⟨a, dx, xs, e, q, n, r⟩ => ⟨a, dx, xs, e, eP _ _ q, n, RepL.mono eP ds xs S k r⟩
theorem RepL.mono {c : LC} {P H P' H' : Hp} (eP : Ex P P') : ∀ (ds : List D) (xs : List V) (S : FP), (∀ a o, 0 < S a → H a = some o → H' a = some o) → RepL c P H ds xs S → RepL c P' H' ds xs S
  | [], xs, S, _, h => h
  | d :: ds, xs, S, k, ⟨y, ys, T, U, e, r, rs, f⟩ => ⟨y, ys, T, U, e, Rep.mono eP d y T (fun b o hb => k b o (by rw [f]; simp only [fa]; omega)) r, RepL.mono eP ds ys U (fun b o hb => k b o (by rw [f]; simp only [fa]; omega)) rs, f⟩
end
mutual
theorem Rep.frz0 {c : LC} {P H : Hp} : ∀ (d : D) (v : V) (S : FP), frz d = true → Rep c P H d v S → S = fz
  | .gone, v, S, _, h => h
  | .non, v, S, _, h => h.2
  | .bl _, v, S, _, h => h.2
  | .int _, v, S, _, h => h.2
  | .str _, v, S, _, h => h.2
  | .scr ns, v, S, k, ⟨a, e, q, z⟩ => z
  | .kst ss, v, S, k, ⟨a, e, q, z⟩ => z
  | .tup ds, v, S, k, ⟨a, xs, e, q, r⟩ => RepL.frz0 ds xs S k r
  | .lst true ds, v, S, k, _ => by simp [frz] at k
  | .lst false ds, v, S, k, ⟨a, xs, e, q, r⟩ => RepL.frz0 ds xs S (by simpa [frz] using k) r
  | .dK true ks ds, v, S, k, _ => by simp [frz] at k
  | .dK false ks ds, v, S, k, ⟨a, xs, e, q, n, r⟩ => RepL.frz0 ds xs S (by simpa [frz] using k) r
  | .dT true ks ds, v, S, k, _ => by simp [frz] at k
  | .dT false ks ds, v, S, k, ⟨a, xs, e, q, n, r⟩ => RepL.frz0 ds xs S (by simpa [frz] using k) r
  | .obj true _ fs ds, v, S, k, _ => by simp [frz] at k
  | .obj false _ fs ds, v, S, k, ⟨a, dx, xs, e, q, n, r⟩ => RepL.frz0 ds xs S (by simpa [frz] using k) r
theorem RepL.frz0 {c : LC} {P H : Hp} : ∀ (ds : List D) (xs : List V) (S : FP), frzL ds = true → RepL c P H ds xs S → S = fz
  | [], xs, S, _, h => h.2
  | d :: ds, xs, S, k, ⟨y, ys, T, U, e, r, rs, f⟩ => by
    simp only [frzL, Bool.and_eq_true] at k
    rw [f, Rep.frz0 d y T k.1 r, RepL.frz0 ds ys U k.2 rs, fa_fz]
end
mutual
theorem Rep.ice {c : LC} {P H P' H' : Hp} (eP : Ex P P') : ∀ (d : D) (v : V) (S : FP), (∀ a o, 0 < S a → H a = some o → P' a = some o) → Rep c P H d v S → Rep c P' H' (ice d) v fz
  | .gone, v, S, _, h => rfl
  | .non, v, S, _, h => ⟨h.1, rfl⟩
  | .bl _, v, S, _, h => ⟨h.1, rfl⟩
  | .int _, v, S, _, h => ⟨h.1, rfl⟩
  | .str _, v, S, _, h => ⟨h.1, rfl⟩
  | .scr ns, v, S, k, ⟨a, e, q, z⟩ => ⟨a, e, sql_mono eP q, rfl⟩
  | .kst ss, v, S, k, ⟨a, e, q, z⟩ => ⟨a, e, sqt_mono eP q, rfl⟩
  | .tup ds, v, S, k, ⟨a, xs, e, q, r⟩ => ⟨a, xs, e, eP _ _ q, RepL.ice eP ds xs S k r⟩
  | .lst true ds, v, S, k, ⟨a, xs, T, e, q, r, f⟩ => ⟨a, xs, e, k _ _ (by rw [f]; simp [fa, one]; omega) q, RepL.ice eP ds xs T (fun b o hb => k b o (by rw [f]; simp only [fa]; omega)) r⟩
  | .lst false ds, v, S, k, ⟨a, xs, e, q, r⟩ => ⟨a, xs, e, eP _ _ q, RepL.ice eP ds xs S k r⟩
  | .dK true ks ds, v, S, k, ⟨a, xs, T, e, q, n, r, f⟩ => ⟨a, xs, e, k _ _ (by rw [f]; simp [fa, one]; omega) q, n, RepL.ice eP ds xs T (fun b o hb => k b o (by rw [f]; simp only [fa]; omega)) r⟩
  | .dK false ks ds, v, S, k, ⟨a, xs, e, q, n, r⟩ => ⟨a, xs, e, eP _ _ q, n, RepL.ice eP ds xs S k r⟩
  | .dT true ks ds, v, S, k, ⟨a, xs, T, e, q, n, r, f⟩ => ⟨a, xs, e, k _ _ (by rw [f]; simp [fa, one]; omega) q, n, RepL.ice eP ds xs T (fun b o hb => k b o (by rw [f]; simp only [fa]; omega)) r⟩
  | .dT false ks ds, v, S, k, ⟨a, xs, e, q, n, r⟩ => ⟨a, xs, e, eP _ _ q, n, RepL.ice eP ds xs S k r⟩
  | .obj true _ fs ds, v, S, k, ⟨a, dx, xs, T, e, q, n, r, f⟩ => ⟨a, dx, xs, e, k _ _ (by rw [f]; simp [fa, one]; omega) q, n, RepL.ice eP ds xs T (fun b o hb => k b o (by rw [f]; simp only [fa]; omega)) r⟩
  | .obj false _ fs ds, v, S, k, ⟨a, dx, xs, e, q, n, r⟩ => ⟨a, dx, xs, e, eP _ _ q, n, RepL.ice eP ds xs S k r⟩
theorem RepL.ice {c : LC} {P H P' H' : Hp} (eP : Ex P P') : ∀ (ds : List D) (xs : List V) (S : FP), (∀ a o, 0 < S a → H a = some o → P' a = some o) → RepL c P H ds xs S → RepL c P' H' (iceL ds) xs fz
  | [], xs, S, _, h => ⟨h.1, rfl⟩
  | d :: ds, xs, S, k, ⟨y, ys, T, U, e, r, rs, f⟩ => ⟨y, ys, fz, fz, e, Rep.ice eP d y T (fun b o hb => k b o (by rw [f]; simp only [fa]; omega)) r, RepL.ice eP ds ys U (fun b o hb => k b o (by rw [f]; simp only [fa]; omega)) rs, (fa_fz fz).symm⟩
end
mutual
/-- what is owned stands in the heap -/
theorem Rep.there {c : LC} {P H : Hp} : ∀ (d : D) (v : V) (S : FP), Rep c P H d v S → ∀ a, 0 < S a → H a ≠ none
  | .gone, v, S, h => fun a p => by rw [show S = fz from h] at p; simp [fz] at p
  | .non, v, S, h => fun a p => by rw [h.2] at p; simp [fz] at p
  | .bl _, v, S, h => fun a p => by rw [h.2] at p; simp [fz] at p
  | .int _, v, S, h => fun a p => by rw [h.2] at p; simp [fz] at p
  | .str _, v, S, h => fun a p => by rw [h.2] at p; simp [fz] at p
  | .scr ns, v, S, ⟨a, e, q, z⟩ => fun b p => by rw [z] at p; simp [fz] at p
  | .kst ss, v, S, ⟨a, e, q, z⟩ => fun b p => by rw [z] at p; simp [fz] at p
  | .tup ds, v, S, ⟨a, xs, e, q, r⟩ => RepL.there ds xs S r
  | .lst true ds, v, S, ⟨a, xs, T, e, q, r, f⟩ => fun b p => by
    by_cases z : b = a
    · rw [z, q]; simp
    · exact RepL.there ds xs T r b (by rw [f] at p; simpa [fa, one, z] using p)
  | .lst false ds, v, S, ⟨a, xs, e, q, r⟩ => RepL.there ds xs S r
  | .dK true ks ds, v, S, ⟨a, xs, T, e, q, n, r, f⟩ => fun b p => by
    by_cases z : b = a
    · rw [z, q]; simp
    · exact RepL.there ds xs T r b (by rw [f] at p; simpa [fa, one, z] using p)
  | .dK false ks ds, v, S, ⟨a, xs, e, q, n, r⟩ => RepL.there ds xs S r
  | .dT true ks ds, v, S, ⟨a, xs, T, e, q, n, r, f⟩ => fun b p => by
    by_cases z : b = a
    · rw [z, q]; simp
    · exact RepL.there ds xs T r b (by rw [f] at p; simpa [fa, one, z] using p)
  | .dT false ks ds, v, S, ⟨a, xs, e, q, n, r⟩ => RepL.there ds xs S r
  | .obj true _ fs ds, v, S, ⟨a, dx, xs, T, e, q, n, r, f⟩ => fun b p => by
    by_cases z : b = a
    · rw [z, q]; simp
    · exact RepL.there ds xs T r b (by rw [f] at p; simpa [fa, one, z] using p)
  | .obj false _ fs ds, v, S, ⟨a, dx, xs, e, q, n, r⟩ => RepL.there ds xs S r
theorem RepL.there {c : LC} {P H : Hp} : ∀ (ds : List D) (xs : List V) (S : FP), RepL c P H ds xs S → ∀ a, 0 < S a → H a ≠ none
  | [], xs, S, h => fun a p => by rw [h.2] at p; simp [fz] at p
  | d :: ds, xs, S, ⟨y, ys, T, U, e, r, rs, f⟩ => fun a p => by
    rw [f] at p
    by_cases z : 0 < T a
    · exact Rep.there d y T r a z
    · exact RepL.there ds ys U rs a (by simp only [fa] at p; omega)
end
end LI
namespace LI
open PySem L2

/-- a def's entry -/
structure En where
  P0 : Hp
  H0 : Hp
  S0 : FP
  kp : List Bool
  vs : List V

def RepO (c : LC) (P H : Hp) (d : D) : Option V → FP → Prop
  | some v, T => Rep c P H d v T
  | none, T => d = .gone ∧ T = fz
def RepE (c : LC) (P H : Hp) : List D → St → FP → Prop
  | [], [], S => S = fz
  | d :: ds, ov :: σ, S => ∃ T U, RepO c P H d ov T ∧ RepE c P H ds σ U ∧ S = fa T U
  | _, _, _ => False

/-- the world: P what is fixed, S what the slots own, T what waits aside -/
structure Wd (c : LC) (E : En) (P : Hp) (S T : FP) (σ : St) (H : Hp) (ρ : List D) : Prop where
  env : RepE c P H ρ σ S
  le : ∀ a, S a + T a ≤ 1
  out : ∀ a, 0 < S a + T a → P a = none
  th : ∀ a, 0 < T a → H a ≠ none
  ph : Ex P H
  p0 : Ex E.P0 P
  fr : ∀ a o, E.S0 a = 0 → E.H0 a = some o → H a = some o
  np : ∀ a, P a ≠ none → E.P0 a ≠ none ∨ 0 < E.S0 a ∨ E.H0 a = none
  ns : ∀ a, 0 < S a + T a → 0 < E.S0 a ∨ E.H0 a = none
  kp : ∀ (i : Nat) (v : V), E.kp[i]? = some true → E.vs[i]? = some v → σ[i]? = some (some v)

/-- the heap grows -/
structure Gr (P H P' H' : Hp) : Prop where
  p : Ex P P'
  h : Ex H H'
  ph : Ex P' H'
  new : ∀ a, P' a ≠ none → P a ≠ none ∨ H a = none
theorem Gr.refl {P H : Hp} (e : Ex P H) : Gr P H P H := ⟨.refl _, .refl _, e, fun _ h => .inl h⟩
theorem Gr.trans {P H P1 H1 P2 H2 : Hp} (a : Gr P H P1 H1) (b : Gr P1 H1 P2 H2) : Gr P H P2 H2 :=
  ⟨a.p.trans b.p, a.h.trans b.h, b.ph, fun x h => by
    rcases b.new x h with q | q
    · exact a.new x q
    · cases z : H x with
      | none => exact .inr rfl
      | some o => rw [a.h x o z] at q; cases q⟩

theorem RepO.mono {c : LC} {P H P' H' : Hp} (eP : Ex P P') {d : D} {v : Option V} {S : FP} (k : ∀ a o, 0 < S a → H a = some o → H' a = some o) (h : RepO c P H d v S) : RepO c P' H' d v S := by
  cases v with
  | none => exact h
  | some v => exact Rep.mono eP d v S k h
theorem RepE.mono {c : LC} {P H P' H' : Hp} (eP : Ex P P') : ∀ (ρ : List D) (σ : St) (S : FP), (∀ a o, 0 < S a → H a = some o → H' a = some o) → RepE c P H ρ σ S → RepE c P' H' ρ σ S
  | [], [], S, _, h => h
  | d :: ds, v :: σ, S, k, ⟨T, U, r, rs, f⟩ => ⟨T, U, RepO.mono eP (fun b o hb => k b o (by rw [f]; simp only [fa]; omega)) r, RepE.mono eP ds σ U (fun b o hb => k b o (by rw [f]; simp only [fa]; omega)) rs, f⟩
  | [], _ :: _, _, _, h => h.elim
  | _ :: _, [], _, _, h => h.elim
theorem RepO.there {c : LC} {P H : Hp} {d : D} {v : Option V} {S : FP} (h : RepO c P H d v S) : ∀ a, 0 < S a → H a ≠ none := by
  cases v with
  | none => intro a p; rw [h.2] at p; simp [fz] at p
  | some v => exact Rep.there d v S h
theorem RepE.there {c : LC} {P H : Hp} : ∀ (ρ : List D) (σ : St) (S : FP), RepE c P H ρ σ S → ∀ a, 0 < S a → H a ≠ none
  | [], [], S, h => fun a p => by rw [show S = fz from h] at p; simp [fz] at p
  | d :: ds, v :: σ, S, ⟨T, U, r, rs, f⟩ => fun a p => by
    rw [f] at p
    by_cases z : 0 < T a
    · exact r.there a z
    · exact RepE.there ds σ U rs a (by simp only [fa] at p; omega)
  | [], _ :: _, _, h => h.elim
  | _ :: _, [], _, h => h.elim
theorem RepE.len {c : LC} {P H : Hp} : ∀ (ρ : List D) (σ : St) (S : FP), RepE c P H ρ σ S → ρ.length = σ.length
  | [], [], _, _ => rfl
  | _ :: ds, _ :: σ, _, ⟨_, U, _, rs, _⟩ => by simp [RepE.len ds σ U rs]
  | [], _ :: _, _, h => h.elim
  | _ :: _, [], _, h => h.elim

section
variable {c : LC} {E : En} {P P' : Hp} {S T : FP} {σ : St} {H H' : Hp} {ρ : List D}
theorem Wd.grow (w : Wd c E P S T σ H ρ) (g : Gr P H P' H') : Wd c E P' S T σ H' ρ where
  env := w.env.mono g.p ρ σ S (fun a o _ h => g.h a o h)
  le := w.le
  out := fun a h => by
    cases z : P' a with
    | none => rfl
    | some o =>
      rcases g.new a (by rw [z]; simp) with q | q
      · exact absurd (w.out a h) q
      · by_cases hT : 0 < T a
        · exact absurd q (w.th a hT)
        · exact absurd q (RepE.there ρ σ S w.env a (by omega))
  th := fun a h z => by
    cases q : H a with
    | none => exact w.th a h q
    | some o => rw [g.h a o q] at z; cases z
  ph := g.ph
  p0 := w.p0.trans g.p
  fr := fun a o h1 h2 => g.h a o (w.fr a o h1 h2)
  np := fun a h => by
    rcases g.new a h with q | q
    · exact w.np a q
    · cases z : E.H0 a with
      | none => exact .inr (.inr rfl)
      | some o =>
        by_cases hs : E.S0 a = 0
        · rw [w.fr a o hs z] at q; cases q
        · exact .inr (.inl (by omega))
  ns := w.ns
  kp := w.kp
/-- something new waits aside -/
theorem Wd.aside (w : Wd c E P S T σ H ρ) (g : Gr P H P' H') {U : FP} (h1 : ∀ a, U a ≤ 1) (h2 : ∀ a, 0 < U a → H a = none ∧ P' a = none) (h3 : ∀ a, 0 < U a → H' a ≠ none) : Wd c E P' S (fa T U) σ H' ρ := by
  have w' := w.grow g
  have hS : ∀ a, 0 < U a → S a = 0 ∧ T a = 0 := fun a h => by
    have n := (h2 a h).1
    refine ⟨?_, ?_⟩
    · rcases Nat.eq_zero_or_pos (S a) with z | z
      · exact z
      · exact absurd n (RepE.there ρ σ S w.env a z)
    · rcases Nat.eq_zero_or_pos (T a) with z | z
      · exact z
      · exact absurd n (w.th a z)
  refine ⟨w'.env, fun a => ?_, fun a h => ?_, fun a h => ?_, w'.ph, w'.p0, w'.fr, w'.np, fun a h => ?_, w'.kp⟩
  · by_cases z : 0 < U a
    · have := hS a z; have := h1 a; simp only [fa]; omega
    · have := w.le a; simp only [fa]; omega
  · by_cases z : 0 < U a
    · exact (h2 a z).2
    · exact w'.out a (by simp only [fa] at h; omega)
  · by_cases z : 0 < U a
    · exact h3 a z
    · exact w'.th a (by simp only [fa] at h; omega)
  · by_cases z : 0 < U a
    · have n := (h2 a z).1
      cases q : E.H0 a with
      | none => exact .inr rfl
      | some o =>
        by_cases hs : E.S0 a = 0
        · rw [w.fr a o hs q] at n; cases n
        · exact .inl (by omega)
    · exact w'.ns a (by simp only [fa] at h; omega)
end

/-! ### what an expression is worth -/
abbrev RM := List D → Option D
abbrev GM := List D → Option (D × List D)
abbrev BM := List D → Option Bool
abbrev BGM := List D → Option (Bool × List D)
def RQ (c : LC) (P H : Hp) (d : D) (Q : VK) : Prop := ∀ v H' P' U, Gr P H P' H' → Rep c P' H' d v U → Q v H'
def FQ (c : LC) (P H : Hp) (d : D) (Q : VK) : Prop := ∀ v H' P' U, Gr P H P' H' → Rep c P' H' d v U → (∀ a, U a ≤ 1) → (∀ a, 0 < U a → H a = none ∧ P' a = none) → Q v H'
/-- a view -/
def tR (c : LC) (E : En) (m : RM) : TE := fun σ H Q => ∃ P S T ρ d, Wd c E P S T σ H ρ ∧ m ρ = some d ∧ RQ c P H d Q
/-- a new thing, or a flat one -/
def tF (c : LC) (E : En) (m : RM) : TE := fun σ H Q => ∃ P S T ρ d, Wd c E P S T σ H ρ ∧ m ρ = some d ∧ FQ c P H d Q
/-- with changes -/
def tG (c : LC) (E : En) (m : GM) : TE := fun σ H Q => ∃ P S T ρ d ρ', Wd c E P S T σ H ρ ∧ m ρ = some (d, ρ') ∧
  ∀ v H' P' S' U, Wd c E P' S' (fa T U) σ H' ρ' → Ex P P' → Rep c P' H' d v U → (∀ a o, 0 < T a → H a = some o → H' a = some o) → Q v H'
def tT (c : LC) (E : En) (m : BM) : TT := fun σ H Q => ∃ P S T ρ b, Wd c E P S T σ H ρ ∧ m ρ = some b ∧ ∀ H' P', Gr P H P' H' → Q b H'
def tTG (c : LC) (E : En) (m : BGM) : TT := fun σ H Q => ∃ P S T ρ b ρ', Wd c E P S T σ H ρ ∧ m ρ = some (b, ρ') ∧
  ∀ H' P' S', Wd c E P' S' T σ H' ρ' → Ex P P' → (∀ a o, 0 < T a → H a = some o → H' a = some o) → Q b H'

theorem PE_imp {X : Cx} {e : Expr} {t t' : TE} (h : PE X e t) (k : ∀ σ H Q, t' σ H Q → t σ H Q) : PE X e t' := ⟨fun pins s σ H Q I q => h.run pins s σ H Q I (k σ H Q q)⟩
theorem PT_imp {X : Cx} {e : Expr} {t t' : TT} (h : PT X e t) (k : ∀ σ H Q, t' σ H Q → t σ H Q) : PT X e t' := ⟨fun pins s σ H Q I q => h.run pins s σ H Q I (k σ H Q q)⟩
theorem PW_imp {X : Cx} {e : Expr} {t t' : TT} (h : PW X e t) (k : ∀ σ H Q, t' σ H Q → t σ H Q) : PW X e t' := ⟨fun whole pins s σ H Q I q => h.run whole pins s σ H Q I (k σ H Q q)⟩
theorem PA_imp {X : Cx} {e : List Expr} {t t' : TA} (h : PA X e t) (k : ∀ σ H Q, t' σ H Q → t σ H Q) : PA X e t' := ⟨fun pos pins s σ H Q I q => h.run pos pins s σ H Q I (k σ H Q q)⟩
theorem PS_imp {X : Cx} {e : Stmt} {t t' : TS} (h : PS X e t) (k : ∀ D σ H, t' D σ H → t D σ H) : PS X e t' := ⟨fun pins s σ H D I q => h.run pins s σ H D I (k D σ H q)⟩
theorem PSs_imp {X : Cx} {e : List Stmt} {t t' : TS} (h : PSs X e t) (k : ∀ D σ H, t' D σ H → t D σ H) : PSs X e t' := ⟨fun pins s σ H D I q => h.run pins s σ H D I (k D σ H q)⟩

section
variable {c : LC} {E : En} {P P' : Hp} {S T : FP} {σ : St} {H H' : Hp} {ρ : List D} {X : Cx} {e : Expr} {m : RM}
theorem FQ.of_R {d : D} {Q : VK} (h : RQ c P H d Q) : FQ c P H d Q := fun v H' P' U g r _ _ => h v H' P' U g r
/-- a flat value -/
theorem FQ.flat {d : D} {v : V} {Q : VK} (h : FQ c P H d Q) (e : Ex P H) (r : Rep c P H d v fz) : Q v H :=
  h v H P fz (.refl e) r (fun _ => Nat.zero_le _) fun a p => by simp [fz] at p
theorem r_f (h : PE X e (tF c E m)) : PE X e (tR c E m) := PE_imp h fun σ H Q ⟨P, S, T, ρ, d, w, hm, q⟩ => ⟨P, S, T, ρ, d, w, hm, .of_R q⟩
def upF (m : RM) : GM := fun ρ => (m ρ).map fun d => (d, ρ)
def upR (m : RM) : GM := fun ρ => (m ρ).bind fun d => if frz d = true then some (d, ρ) else none
theorem g_f (h : PE X e (tF c E m)) : PE X e (tG c E (upF m)) := PE_imp h fun σ H Q ⟨P, S, T, ρ, d, ρ', w, hm, q⟩ => by
  unfold upF at hm
  cases hd : m ρ with
  | none => rw [hd] at hm; cases hm
  | some d1 =>
    rw [hd] at hm
    cases hm
    exact ⟨P, S, T, ρ, d, w, hd, fun v H' P' U g r u1 u2 => q v H' P' S U (w.aside g u1 u2 (Rep.there d v U r)) g.p r fun a o _ h => g.h a o h⟩
theorem g_r (h : PE X e (tR c E m)) : PE X e (tG c E (upR m)) := PE_imp h fun σ H Q ⟨P, S, T, ρ, d, ρ', w, hm, q⟩ => by
  unfold upR at hm
  cases hd : m ρ with
  | none => rw [hd] at hm; cases hm
  | some d1 =>
    rw [hd] at hm
    simp only [Option.bind_some] at hm
    split at hm
    · rename_i hf
      cases hm
      refine ⟨P, S, T, ρ, d, w, hd, fun v H' P' U g r => ?_⟩
      have e := Rep.frz0 d v U hf r
      subst e
      exact q v H' P' S fz (w.aside g (fun _ => Nat.zero_le _) (fun a p => by simp [fz] at p) (fun a p => by simp [fz] at p)) g.p r fun a o _ h => g.h a o h
    · cases hm
/-- a new thing that is left to none -/
def coldM (m : RM) : RM := fun ρ => (m ρ).map ice
theorem f_cold (h : PE X e (tF c E m)) : PE X e (tF c E (coldM m)) := PE_imp h fun σ H Q ⟨P, S, T, ρ, d, w, hm, q⟩ => by
  unfold coldM at hm
  cases hd : m ρ with
  | none => rw [hd] at hm; cases hm
  | some d1 =>
    rw [hd] at hm
    cases hm
    refine ⟨P, S, T, ρ, d1, w, hd, fun v H' P' U g r u1 u2 => ?_⟩
    have r2 : Rep c (fun a => if 0 < U a then H' a else P' a) H' (ice d1) v fz := Rep.ice (fun a o z => by
        by_cases hu : 0 < U a
        · rw [(u2 a hu).2] at z; cases z
        · simp [hu, z]) d1 v U (fun a o hu hh => by simp [hu, hh]) r
    refine q v H' _ fz ⟨fun a o z => ?_, g.h, fun a o z => ?_, fun a z => ?_⟩ r2 (fun _ => Nat.zero_le _) (fun a p => by simp [fz] at p)
    · by_cases hu : 0 < U a
      · have := (u2 a hu).2; rw [g.p a o z] at this; cases this
      · simp [hu, g.p a o z]
    · by_cases hu : 0 < U a
      · simpa [hu] using z
      · exact g.ph a o (by simpa [hu] using z)
    · by_cases hu : 0 < U a
      · exact .inr (u2 a hu).1
      · exact g.new a (by simpa [hu] using z)
end
end LI
namespace LI
open PySem L2

def LIM : Nat := 1000000
theorem lim_le {n : Nat} (h : n ≤ LIM) : n ≤ sizeLine := Nat.le_trans h (by decide)
theorem lim_lt {n : Nat} (h : n < LIM) : n < sizeLine := Nat.lt_of_lt_of_le h (by decide)

/-! ### lists of things -/
theorem RepL.length {c : LC} {P H : Hp} : ∀ {ds : List D} {xs : List V} {S : FP}, RepL c P H ds xs S → ds.length = xs.length
  | [], xs, S, h => by rw [h.1]; rfl
  | d :: ds, xs, S, ⟨y, ys, T, U, e, _, rs, _⟩ => by rw [e]; simp [RepL.length rs]
theorem RepL.append {c : LC} {P H : Hp} : ∀ {ds es : List D} {xs ys : List V} {S T : FP}, RepL c P H ds xs S → RepL c P H es ys T → RepL c P H (ds ++ es) (xs ++ ys) (fa S T)
  | [], es, xs, ys, S, T, h, k => by rw [h.1, h.2, fz_fa]; exact k
  | d :: ds, es, xs, ys, S, T, ⟨y, zs, A, B, e, r, rs, f⟩, k => by
    rw [e, f]
    exact ⟨y, zs ++ ys, A, fa B T, rfl, r, RepL.append rs k, by funext a; simp only [fa]; omega⟩
theorem RepL.get {c : LC} {P H : Hp} : ∀ {ds : List D} {xs : List V} {S : FP} {i : Nat} {d : D}, RepL c P H ds xs S → ds[i]? = some d → ∃ x T, xs[i]? = some x ∧ Rep c P H d x T ∧ ∀ a, T a ≤ S a
  | [], xs, S, i, d, h, e => by simp at e
  | d0 :: ds, xs, S, 0, d, ⟨y, zs, A, B, e, r, rs, f⟩, q => by
    simp at q; subst q
    exact ⟨y, A, by rw [e]; rfl, r, fun a => by rw [f]; simp only [fa]; omega⟩
  | d0 :: ds, xs, S, i + 1, d, ⟨y, zs, A, B, e, r, rs, f⟩, q => by
    obtain ⟨x, T, h1, h2, h3⟩ := RepL.get (i := i) (d := d) rs (by simpa using q)
    exact ⟨x, T, by rw [e]; simpa using h1, h2, fun a => by have := h3 a; rw [f]; simp only [fa]; omega⟩
theorem frzL_iff : ∀ {ds : List D}, frzL ds = true ↔ ∀ d ∈ ds, frz d = true
  | [] => by simp [frzL]
  | d :: ds => by simp [frzL, frzL_iff (ds := ds)]
theorem RepL.drop {c : LC} {P H : Hp} : ∀ {ds : List D} {xs : List V} (n : Nat), RepL c P H ds xs fz → RepL c P H (ds.drop n) (xs.drop n) fz
  | ds, xs, 0, h => h
  | [], xs, n + 1, h => by rw [h.1]; exact ⟨rfl, rfl⟩
  | d :: ds, xs, n + 1, ⟨y, zs, A, B, e, r, rs, f⟩ => by
    have hB : B = fz := by
      funext a
      have := congrFun f a
      simp only [fa, fz] at this ⊢
      omega
    subst hB
    rw [e]
    exact RepL.drop n rs
theorem RepL.take {c : LC} {P H : Hp} : ∀ {ds : List D} {xs : List V} (n : Nat), RepL c P H ds xs fz → RepL c P H (ds.take n) (xs.take n) fz
  | ds, xs, 0, h => ⟨rfl, rfl⟩
  | [], xs, n + 1, h => by rw [h.1]; exact ⟨rfl, rfl⟩
  | d :: ds, xs, n + 1, ⟨y, zs, A, B, e, r, rs, f⟩ => by
    have hB : A = fz ∧ B = fz := by
      refine ⟨?_, ?_⟩ <;> funext a <;> (have := congrFun f a; simp only [fa, fz] at this ⊢; omega)
    obtain ⟨rfl, rfl⟩ := hB
    rw [e]
    exact ⟨y, zs.take n, fz, fz, rfl, r, RepL.take n rs, (fa_fz fz).symm⟩
theorem RepL.rep {c : LC} {P H : Hp} {ds : List D} {xs : List V} (h : RepL c P H ds xs fz) : ∀ n : Nat, RepL c P H (List.replicate n ds).flatten (List.replicate n xs).flatten fz
  | 0 => ⟨rfl, rfl⟩
  | n + 1 => by
    have := RepL.append h (RepL.rep h n)
    rw [fa_fz] at this
    simpa [List.replicate_succ] using this

/-! ### new objects -/
section
variable {c : LC} {P H : Hp} {Q : VK}
theorem none_of {a : Addr} (e : Ex P H) (h : H a = none) : P a = none := by
  cases z : P a with
  | none => rfl
  | some o => rw [e a o z] at h; cases h
theorem ex_new {p : Addr} {o : HO} (h : H p = none) : Ex H (upd H p o) := fun a u e => by
  rw [upd_ne (ne_of_none e h)]; exact e
theorem one_le {p : Addr} : ∀ a, one p a ≤ 1 := fun a => by unfold one; split <;> omega
theorem one_pos {p a : Addr} (h : 0 < one p a) : a = p := by unfold one at h; split at h <;> first | assumption | omega
theorem FQ.lst {ds : List D} {xs : List V} (h : FQ c P H (.lst true ds) Q) (e : Ex P H) (r : RepL c P H ds xs fz) : ∀ p, H p = none → Q (.ref p) (upd H p (.lst xs)) := fun p hp => by
  refine h _ _ P (one p) ⟨.refl _, ex_new hp, e.trans (ex_new hp), fun _ z => .inl z⟩ ⟨p, xs, fz, rfl, upd_same, RepL.mono (.refl _) ds xs fz (fun a o z _ => by simp [fz] at z) r, (fa_fz _).symm⟩ one_le fun a z => ?_
  rw [one_pos z]
  exact ⟨hp, none_of e hp⟩
theorem FQ.lstC {ds : List D} {xs : List V} (h : FQ c P H (.lst false ds) Q) (e : Ex P H) (r : RepL c P H ds xs fz) : ∀ p, H p = none → Q (.ref p) (upd H p (.lst xs)) := fun p hp => by
  have hP := none_of e hp
  refine h _ _ (upd P p (.lst xs)) fz ⟨ex_new hP, ex_new hp, fun a o z => ?_, fun a z => ?_⟩ ⟨p, xs, rfl, upd_same, RepL.mono (ex_new hP) ds xs fz (fun a o z _ => by simp [fz] at z) r⟩ (fun _ => Nat.zero_le _) (fun a z => by simp [fz] at z)
  · by_cases q : a = p
    · subst q; rw [upd_same] at z ⊢; exact z
    · rw [upd_ne q] at z ⊢; exact e a o z
  · by_cases q : a = p
    · subst q; exact .inr hp
    · rw [upd_ne q] at z; exact .inl z
theorem FQ.tup {ds : List D} {xs : List V} (h : FQ c P H (.tup ds) Q) (e : Ex P H) (r : RepL c P H ds xs fz) : ∀ p, H p = none → Q (.ref p) (upd H p (.tup xs)) := fun p hp => by
  have hP := none_of e hp
  refine h _ _ (upd P p (.tup xs)) fz ⟨ex_new hP, ex_new hp, fun a o z => ?_, fun a z => ?_⟩ ⟨p, xs, rfl, upd_same, RepL.mono (ex_new hP) ds xs fz (fun a o z _ => by simp [fz] at z) r⟩ (fun _ => Nat.zero_le _) (fun a z => by simp [fz] at z)
  · by_cases q : a = p
    · subst q; rw [upd_same] at z ⊢; exact z
    · rw [upd_ne q] at z ⊢; exact e a o z
  · by_cases q : a = p
    · subst q; exact .inr hp
    · rw [upd_ne q] at z; exact .inl z
theorem FQ.grow {P2 H2 : Hp} {d : D} (h : FQ c P H d Q) (g : Gr P H P2 H2) : FQ c P2 H2 d Q := fun v H' P' U g2 r u1 u2 => h v H' P' U (g.trans g2) r u1 fun a z => by
  obtain ⟨n1, n2⟩ := u2 a z
  refine ⟨?_, n2⟩
  cases q : H a with
  | none => rfl
  | some o => rw [g.h a o q] at n1; cases n1
theorem RQ.grow {P2 H2 : Hp} {d : D} (h : RQ c P H d Q) (g : Gr P H P2 H2) : RQ c P2 H2 d Q := fun v H' P' U g2 r => h v H' P' U (g.trans g2) r
theorem Rep.gr {P2 H2 : Hp} {d : D} {v : V} {S : FP} (r : Rep c P H d v S) (g : Gr P H P2 H2) : Rep c P2 H2 d v S := Rep.mono g.p d v S (fun a o _ h => g.h a o h) r
theorem RepL.gr {P2 H2 : Hp} {d : List D} {v : List V} {S : FP} (r : RepL c P H d v S) (g : Gr P H P2 H2) : RepL c P2 H2 d v S := RepL.mono g.p d v S (fun a o _ h => g.h a o h) r
end

/-! ### two-place operations -/
def m2 (f : D → D → Option D) (ma mb : RM) : RM := fun ρ => (ma ρ).bind fun x => (mb ρ).bind fun y => f x y
def m1 (f : D → Option D) (ma : RM) : RM := fun ρ => (ma ρ).bind f
/-- f is what r does -/
def Op2 (c : LC) (r : R2) (f : D → D → Option D) : Prop := ∀ (P H : Hp), Ex P H → ∀ da db d x y U1 U2, f da db = some d → Rep c P H da x U1 → Rep c P H db y U2 → ∀ Q, FQ c P H d Q → r x y H Q
def Op2V (c : LC) (r : R2) (f : D → D → Option D) : Prop := ∀ (P H : Hp), Ex P H → ∀ da db d x y U1 U2, f da db = some d → Rep c P H da x U1 → Rep c P H db y U2 → ∀ Q, RQ c P H d Q → r x y H Q
section
variable {X : Cx} {cl : Nat → Addr} {E : En} {a b : Expr} {pos : Pos} {ma mb : RM} {r : R2} {f : D → D → Option D}
theorem op2_run (hf : Op2 ⟨X.K, cl⟩ r f) {σ : L2.St} {H : Hp} {Q : VK} (h : tF ⟨X.K, cl⟩ E (m2 f ma mb) σ H Q) : tOp r (tR ⟨X.K, cl⟩ E ma) (tR ⟨X.K, cl⟩ E mb) σ H Q := by
  obtain ⟨P, S, T, ρ, d, w, hm, q⟩ := h
  unfold m2 at hm
  cases ea : ma ρ with
  | none => rw [ea] at hm; cases hm
  | some da =>
    cases eb : mb ρ with
    | none => rw [ea, eb] at hm; cases hm
    | some db =>
      rw [ea, eb] at hm
      refine ⟨P, S, T, ρ, da, w, ea, fun x H1 P1 U1 g1 r1 => ⟨P1, S, T, ρ, db, w.grow g1, eb, fun y H2 P2 U2 g2 r2 => ?_⟩⟩
      exact hf P2 H2 g2.ph _ _ _ _ _ _ _ hm (r1.gr g2) r2 Q (q.grow (g1.trans g2))
theorem op2_runV (hf : Op2V ⟨X.K, cl⟩ r f) {σ : L2.St} {H : Hp} {Q : VK} (h : tR ⟨X.K, cl⟩ E (m2 f ma mb) σ H Q) : tOp r (tR ⟨X.K, cl⟩ E ma) (tR ⟨X.K, cl⟩ E mb) σ H Q := by
  obtain ⟨P, S, T, ρ, d, w, hm, q⟩ := h
  unfold m2 at hm
  cases ea : ma ρ with
  | none => rw [ea] at hm; cases hm
  | some da =>
    cases eb : mb ρ with
    | none => rw [ea, eb] at hm; cases hm
    | some db =>
      rw [ea, eb] at hm
      refine ⟨P, S, T, ρ, da, w, ea, fun x H1 P1 U1 g1 r1 => ⟨P1, S, T, ρ, db, w.grow g1, eb, fun y H2 P2 U2 g2 r2 => ?_⟩⟩
      exact hf P2 H2 g2.ph _ _ _ _ _ _ _ hm (r1.gr g2) r2 Q (q.grow (g1.trans g2))
theorem f_bin {op : Operator} (ho : OpR X (binaryOp op) r) (hf : Op2 ⟨X.K, cl⟩ r f) (ha : PE X a (tR ⟨X.K, cl⟩ E ma)) (hb : PE X b (tR ⟨X.K, cl⟩ E mb)) : PE X (.BinOp a op b pos) (tF ⟨X.K, cl⟩ E (m2 f ma mb)) :=
  PE_imp (pe_op ho ha hb) fun _ _ _ h => op2_run hf h
theorem f_cmp {op : CmpOp} (ho : OpR X (compareOp op) r) (hf : Op2 ⟨X.K, cl⟩ r f) (ha : PE X a (tR ⟨X.K, cl⟩ E ma)) (hb : PE X b (tR ⟨X.K, cl⟩ E mb)) (hm : behindInMarks op b = false) : PE X (.Compare a [op] [b] pos) (tF ⟨X.K, cl⟩ E (m2 f ma mb)) :=
  PE_imp (pe_cmpR ho ha hb hm) fun _ _ _ h => op2_run hf h
/-- a bool as a test -/
def bM (m : RM) : BM := fun ρ => (m ρ).bind fun d => match d with | .bl b => some b | _ => none
theorem bM_some {m : RM} {ρ : List D} {b : Bool} (h : bM m ρ = some b) : m ρ = some (.bl b) := by
  unfold bM at h
  cases e : m ρ with
  | none => rw [e] at h; cases h
  | some d =>
    rw [e] at h
    cases d with
    | bl k => simp at h; rw [h]
    | _ => simp at h
theorem t_test {e : Expr} {m : RM} {t : TE} (h : PT X e (tTest t)) (k : ∀ σ H Q, tF ⟨X.K, cl⟩ E m σ H Q → t σ H Q) : PT X e (tT ⟨X.K, cl⟩ E (bM m)) :=
  PT_imp h fun σ H Q ⟨P, S, T, ρ, b, w, hm, q⟩ => k σ H _ ⟨P, S, T, ρ, .bl b, w, bM_some hm, fun v H' P' U g r _ _ => ⟨b, r.1, q H' P' g⟩⟩
theorem t_cmp {op : CmpOp} (ho : OpR X (compareOp op) r) (hf : Op2 ⟨X.K, cl⟩ r f) (ha : PE X a (tR ⟨X.K, cl⟩ E ma)) (hb : PE X b (tR ⟨X.K, cl⟩ E mb)) (hm : behindInMarks op b = false) : PT X (.Compare a [op] [b] pos) (tT ⟨X.K, cl⟩ E (bM (m2 f ma mb))) :=
  t_test (pt_cmpR ho ha hb hm) fun _ _ _ h => op2_run hf h
end
theorem OpR_or {X : Cx} {g : Value → Value → Sem Value} {r r' : R2} (h : OpR X g r) (h' : OpR X g r') : OpR X g (fun x y H Q => r x y H Q ∨ r' x y H Q) := fun pins s σ H x y v u Q I rx ry q => q.elim (h pins s σ H x y v u Q I rx ry) (h' pins s σ H x y v u Q I rx ry)

/-! ### + - * // % ** -/
def addD : D → D → Option D
  | .int a, .int b => some (.int (a + b))
  | .str a, .str b => if a.length + b.length ≤ LIM then some (.str (a ++ b)) else none
  | .lst _ a, .lst _ b => if (frzL a && frzL b) = true ∧ a.length + b.length ≤ LIM then some (.lst true (a ++ b)) else none
  | .tup a, .tup b => if (frzL a && frzL b) = true ∧ a.length + b.length ≤ LIM then some (.tup (a ++ b)) else none
  | _, _ => none
def rAddA (K : PySem.W.Frag) : R2 := fun x y H Q => (rI0 (fun i j => .int (i + j))) x y H Q ∨ (∃ i j, x = .str i ∧ y = .str j ∧ i.length + j.length ≤ sizeLine ∧ Q (.str (i ++ j)) H) ∨ rCat x y H Q ∨ rCatA K x y H Q
section
variable {X : Cx} {c : LC}
theorem opr_add : OpR X (binaryOp .Add) (rAddA X.K) := OpR_or op_add (OpR_or op_add_str (OpR_or op_cat op_catA))
theorem lst_heap {P H : Hp} (e : Ex P H) {o : Bool} {ds : List D} {v : V} {U : FP} (r : Rep c P H (.lst o ds) v U) : ∃ a xs T, v = .ref a ∧ H a = some (.lst xs) ∧ RepL c P H ds xs T ∧ ∀ a, T a ≤ U a := by
  cases o with
  | true =>
    obtain ⟨a, xs, T, e1, h, rl, f⟩ := r
    exact ⟨a, xs, T, e1, h, rl, fun b => by rw [f]; simp only [fa]; omega⟩
  | false =>
    obtain ⟨a, xs, e1, h, rl⟩ := r
    exact ⟨a, xs, U, e1, e _ _ h, rl, fun _ => Nat.le_refl _⟩
theorem lst_heap0 {P H : Hp} (e : Ex P H) {o : Bool} {ds : List D} {v : V} {U : FP} (r : Rep c P H (.lst o ds) v U) (hf : frzL ds = true) : ∃ a xs, v = .ref a ∧ H a = some (.lst xs) ∧ RepL c P H ds xs fz := by
  obtain ⟨a, xs, T, e1, h, rl, _⟩ := lst_heap e r
  have z := RepL.frz0 ds xs T hf rl
  subst z
  exact ⟨a, xs, e1, h, rl⟩
theorem tup_heap0 {P H : Hp} (e : Ex P H) {ds : List D} {v : V} {U : FP} (r : Rep c P H (.tup ds) v U) (hf : frzL ds = true) : ∃ a xs, v = .ref a ∧ SqT c.K H a xs ∧ P a = some (.tup xs) ∧ RepL c P H ds xs fz := by
  obtain ⟨a, xs, e1, h, rl⟩ := r
  have z := RepL.frz0 ds xs U hf rl
  subst z
  exact ⟨a, xs, e1, .inl (.inl (e _ _ h)), h, rl⟩
theorem str_app (a b : List Nat) : (⟨a.toArray⟩ : Str) ++ (⟨b.toArray⟩ : Str) = ⟨(a ++ b).toArray⟩ := by
  show (Str.mk (a.toArray ++ b.toArray)) = _
  simp
theorem str_len (a : List Nat) : (⟨a.toArray⟩ : Str).length = a.length := by
  show a.toArray.size = _
  simp
theorem op_addD : Op2 c (rAddA c.K) addD := by
  intro P H e da db d x y U1 U2 hf r1 r2 Q q
  unfold addD at hf
  split at hf
  · rename_i a b
    cases hf
    exact .inl ⟨a, b, r1.1, r2.1, q.flat e ⟨rfl, rfl⟩⟩
  · rename_i a b
    split at hf
    · rename_i hl
      cases hf
      refine .inr (.inl ⟨_, _, r1.1, r2.1, ?_, ?_⟩)
      · rw [str_len, str_len]; exact lim_le hl
      · rw [str_app]; exact q.flat e ⟨rfl, rfl⟩
    · cases hf
  · rename_i o1 a o2 b
    split at hf
    · rename_i hl
      obtain ⟨hz, hl⟩ := hl
      simp only [Bool.and_eq_true] at hz
      cases hf
      obtain ⟨p1, xs, rfl, h1, l1⟩ := lst_heap0 e r1 hz.1
      obtain ⟨p2, ys, rfl, h2, l2⟩ := lst_heap0 e r2 hz.2
      refine .inr (.inr (.inl ⟨p1, p2, xs, ys, rfl, rfl, h1, h2, ?_, q.lst e ?_⟩))
      · rw [← l1.length, ← l2.length]; exact lim_le hl
      · have := l1.append l2; rwa [fa_fz] at this
    · cases hf
  · rename_i a b
    split at hf
    · rename_i hl
      obtain ⟨hz, hl⟩ := hl
      simp only [Bool.and_eq_true] at hz
      cases hf
      obtain ⟨p1, xs, rfl, h1, h1', l1⟩ := tup_heap0 e r1 hz.1
      obtain ⟨p2, ys, rfl, h2, h2', l2⟩ := tup_heap0 e r2 hz.2
      have ll := l1.append l2
      rw [fa_fz] at ll
      refine .inr (.inr (.inr ⟨p1, p2, xs, ys, rfl, rfl, h1, h2, ?_, ?_⟩))
      · rw [← l1.length, ← l2.length]; exact lim_le hl
      · refine ⟨fun z => ?_, fun _ z => ?_, fun _ _ => q.tup e ll⟩
        · subst z
          have h0 : a = [] := by have := l1.length; simpa using this
          subst h0
          exact q.flat e ⟨p2, ys, rfl, h2', l2⟩
        · subst z
          have h0 : b = [] := by have := l2.length; simpa using this
          subst h0
          exact q.flat e ⟨p1, xs, rfl, h1', by simpa using l1⟩
    · cases hf
  · cases hf

/-! ### ints -/
theorem op_i0 {g : Int → Int → V} {gd : Int → Int → D} {f : D → D → Option D} (hf : ∀ a b d, f a b = some d → ∃ i j, a = .int i ∧ b = .int j ∧ d = gd i j) (hg : ∀ (P H : Hp) i j, Rep c P H (gd i j) (g i j) fz) : Op2 c (rI0 g) f := by
  intro P H e da db d x y U1 U2 h r1 r2 Q q
  obtain ⟨i, j, rfl, rfl, rfl⟩ := hf _ _ _ h
  exact ⟨i, j, r1.1, r2.1, q.flat e (hg P H i j)⟩
theorem op_i {C : Int → Int → Prop} {g : Int → Int → V} {gd : Int → Int → D} {f : D → D → Option D} (hf : ∀ a b d, f a b = some d → ∃ i j, a = .int i ∧ b = .int j ∧ d = gd i j ∧ C i j) (hg : ∀ (P H : Hp) i j, Rep c P H (gd i j) (g i j) fz) : Op2 c (rI C g) f := by
  intro P H e da db d x y U1 U2 h r1 r2 Q q
  obtain ⟨i, j, rfl, rfl, rfl, hc⟩ := hf _ _ _ h
  exact ⟨i, j, r1.1, r2.1, hc, q.flat e (hg P H i j)⟩
def subD : D → D → Option D
  | .int a, .int b => some (.int (a - b))
  | _, _ => none
theorem op_subD : Op2 c (rI0 fun i j => .int (i - j)) subD := op_i0 (gd := fun i j => .int (i - j)) (fun a b d h => by
  unfold subD at h; split at h
  · cases h; exact ⟨_, _, rfl, rfl, rfl⟩
  · cases h) fun _ _ _ _ => ⟨rfl, rfl⟩
def fdivD : D → D → Option D
  | .int a, .int b => if 0 < b ∧ b.natAbs.log2 < 9000 then some (.int (a / b)) else none
  | _, _ => none
theorem op_fdivD : Op2 c (rI CDivW fun i j => .int (i / j)) fdivD := op_i (gd := fun i j => .int (i / j)) (fun a b d h => by
  unfold fdivD at h; split at h
  · split at h
    · cases h; exact ⟨_, _, rfl, rfl, rfl, by assumption⟩
    · cases h
  · cases h) fun _ _ _ _ => ⟨rfl, rfl⟩
def modD : D → D → Option D
  | .int a, .int b => if 0 < b then some (.int (a % b)) else none
  | _, _ => none
theorem op_modD : Op2 c (rI (fun _ j => 0 < j) fun i j => .int (i % j)) modD := op_i (gd := fun i j => .int (i % j)) (fun a b d h => by
  unfold modD at h; split at h
  · split at h
    · cases h; exact ⟨_, _, rfl, rfl, rfl, by assumption⟩
    · cases h
  · cases h) fun _ _ _ _ => ⟨rfl, rfl⟩
def powD : D → D → Option D
  | .int a, .int b => if 0 ≤ b ∧ b ≤ 1000000 ∧ a.natAbs < 2 ^ 64 then some (.int (a ^ b.toNat)) else none
  | _, _ => none
theorem op_powD : Op2 c (rI CPow fun i j => .int (i ^ j.toNat)) powD := op_i (gd := fun i j => .int (i ^ j.toNat)) (fun a b d h => by
  unfold powD at h; split at h
  · split at h
    · cases h; exact ⟨_, _, rfl, rfl, rfl, by assumption⟩
    · cases h
  · cases h) fun _ _ _ _ => ⟨rfl, rfl⟩

/-! ### * -/
def mulD : D → D → Option D
  | .int a, .int b => if (-(2 ^ 64) < a ∧ a < 2 ^ 64) ∨ (-(2 ^ 64) < b ∧ b < 2 ^ 64) then some (.int (a * b)) else none
  | .lst _ a, .int k => if frzL a = true ∧ k ≤ 1000000 ∧ -1000000 ≤ k ∧ a.length * k.toNat ≤ LIM then some (.lst true (List.replicate k.toNat a).flatten) else none
  | .str a, .int k => if k ≤ 1000000 ∧ -1000000 ≤ k ∧ a.length * k.toNat ≤ LIM then some (.str (List.replicate k.toNat a).flatten) else none
  | _, _ => none
def rRepS : R2 := fun x y H Q => ∃ z k, x = .str z ∧ y = .int k ∧ MulOk z k ∧ Q (.str (Txt.mul z k)) H
theorem op_repS : OpR X (binaryOp .Mult) rRepS := by
  intro pins s σ H x y v u Q I rx ry h
  obtain ⟨z, k, rfl, rfl, hk, q⟩ := h
  obtain ⟨t, rfl⟩ := rx
  obtain ⟨t', rfl⟩ := ry
  exact PySem.SB.mul hk fun t' k => ⟨.str _, H, I.tok _, ⟨_, rfl⟩, q⟩
def rMulA : R2 := fun x y H Q => rI CMul (fun i j => .int (i * j)) x y H Q ∨ rRep x y H Q ∨ rRepS x y H Q
theorem opr_mul : OpR X (binaryOp .Mult) rMulA := OpR_or op_mul (OpR_or op_rep op_repS)
theorem foldl_app (a : Array Nat) : ∀ (n : Nat) (b : Array Nat), (List.replicate n a).foldl (· ++ ·) b = (b.toList ++ (List.replicate n a.toList).flatten).toArray
  | 0, b => by simp
  | n + 1, b => by
    rw [List.replicate_succ, List.foldl_cons, foldl_app a n]
    simp [List.replicate_succ]
theorem str_mul {a : List Nat} {k : Int} (h1 : k ≤ 1000000) (h2 : -1000000 ≤ k) (h3 : a.length * k.toNat ≤ LIM) : MulOk ⟨a.toArray⟩ k ∧ Txt.mul ⟨a.toArray⟩ k = ⟨(List.replicate k.toNat a).flatten.toArray⟩ := by
  refine ⟨⟨?_, fun n1 n2 => ?_, fun n1 n2 => ?_⟩, ?_⟩
  · rw [Bool.or_eq_false_iff, decide_eq_false_iff_not, decide_eq_false_iff_not]; omega
  · rw [str_len]
    have h4 : (a.length : Int) * k ≤ 2 ^ 63 - 1 := by
      have e1 : (k.toNat : Int) = k := by omega
      have e2 : ((a.length * k.toNat : Nat) : Int) = (a.length : Int) * k := by rw [Int.natCast_mul, e1]
      unfold LIM at h3
      omega
    have := Int.le_ediv_of_mul_le (by omega) h4
    omega
  · rw [str_len]
    have := lim_le h3
    unfold Builtin.Str.tooLong
    simp; omega
  · unfold Txt.mul
    by_cases n1 : k < 1
    · rw [if_pos n1, show k.toNat = 0 by omega]; rfl
    · rw [if_neg n1]
      by_cases n2 : (k == 1 || (⟨a.toArray⟩ : Str).length == 0) = true
      · rw [if_pos n2]
        rw [str_len] at n2
        simp only [Bool.or_eq_true, beq_iff_eq] at n2
        rcases n2 with n2 | n2
        · subst n2; simp
        · have : a = [] := List.length_eq_zero_iff.mp n2
          subst this; simp
      · rw [if_neg n2, foldl_app]; simp
theorem op_mulD : Op2 c rMulA mulD := by
  intro P H e da db d x y U1 U2 hf r1 r2 Q q
  unfold mulD at hf
  split at hf
  · rename_i a b
    split at hf
    · rename_i hc
      cases hf
      exact .inl ⟨a, b, r1.1, r2.1, hc, q.flat e ⟨rfl, rfl⟩⟩
    · cases hf
  · rename_i o a k
    split at hf
    · rename_i hl
      obtain ⟨hz, h1, h2, h3⟩ := hl
      cases hf
      obtain ⟨p1, xs, rfl, hh, l1⟩ := lst_heap0 e r1 hz
      refine .inr (.inl ⟨p1, k, xs, rfl, r2.1, hh, by omega, by omega, ?_, q.lst e (l1.rep _)⟩)
      rw [← l1.length]; exact lim_le h3
    · cases hf
  · rename_i a k
    split at hf
    · rename_i hl
      obtain ⟨h1, h2, h3⟩ := hl
      cases hf
      obtain ⟨m1, m2⟩ := str_mul h1 h2 h3
      exact .inr (.inr ⟨_, k, r1.1, r2.1, m1, by rw [m2]; exact q.flat e ⟨rfl, rfl⟩⟩)
    · cases hf
  · cases hf

/-! ### order -/
def cmpD (fi : Int → Int → Bool) (fs : List Nat → List Nat → Bool) : D → D → Option D
  | .int a, .int b => some (.bl (fi a b))
  | .str a, .str b => some (.bl (fs a b))
  | _, _ => none
theorem op_cmpD {fi : Int → Int → Bool} {fs : List Nat → List Nat → Bool} : Op2 c (fun x y H Q => rI0 (fun i j => .bl (fi i j)) x y H Q ∨ ∃ i j, x = .str i ∧ y = .str j ∧ Q (.bl (fs i.cps.toList j.cps.toList)) H) (cmpD fi fs) := by
  intro P H e da db d x y U1 U2 hf r1 r2 Q q
  unfold cmpD at hf
  split at hf
  · cases hf
    exact .inl ⟨_, _, r1.1, r2.1, q.flat e ⟨rfl, rfl⟩⟩
  · rename_i a b
    cases hf
    exact .inr ⟨_, _, r1.1, r2.1, q.flat e ⟨by simp, rfl⟩⟩
  · cases hf
def ltD : D → D → Option D := cmpD (fun i j => decide (i < j)) fun i j => decide (i < j)
def leD : D → D → Option D := cmpD (fun i j => decide (i ≤ j)) fun i j => !decide (j < i)
def gtD : D → D → Option D := cmpD (fun i j => decide (j < i)) fun i j => decide (j < i)
def geD : D → D → Option D := cmpD (fun i j => decide (j ≤ i)) fun i j => !decide (i < j)
theorem opr_lt : OpR X (compareOp .Lt) (fun x y H Q => rI0 (fun i j => .bl (decide (i < j))) x y H Q ∨ ∃ i j, x = .str i ∧ y = .str j ∧ Q (.bl (decide (i.cps.toList < j.cps.toList))) H) := OpR_or op_lt op_lt_str
theorem opr_le : OpR X (compareOp .LtE) (fun x y H Q => rI0 (fun i j => .bl (decide (i ≤ j))) x y H Q ∨ ∃ i j, x = .str i ∧ y = .str j ∧ Q (.bl (!decide (j.cps.toList < i.cps.toList))) H) := OpR_or op_le op_le_str
theorem opr_gt : OpR X (compareOp .Gt) (fun x y H Q => rI0 (fun i j => .bl (decide (j < i))) x y H Q ∨ ∃ i j, x = .str i ∧ y = .str j ∧ Q (.bl (decide (j.cps.toList < i.cps.toList))) H) := OpR_or op_gt op_gt_str
theorem opr_ge : OpR X (compareOp .GtE) (fun x y H Q => rI0 (fun i j => .bl (decide (j ≤ i))) x y H Q ∨ ∃ i j, x = .str i ∧ y = .str j ∧ Q (.bl (!decide (i.cps.toList < j.cps.toList))) H) := OpR_or op_ge op_ge_str

/-! ### == -/
mutual
def toP : D → Option PyData
  | .non => some .none
  | .bl b => some (.bool b)
  | .int i => some (.int i)
  | .str s => some (.str ⟨s.toArray⟩)
  | .scr ns => some (.list (ns.map .int))
  | .kst ss => some (.tuple (ss.map fun s => .str ⟨s.toArray⟩))
  | .tup ds => (toPL ds).map .tuple
  | .lst _ ds => (toPL ds).map .list
  | _ => none
def toPL : List D → Option (List PyData)
  | [] => some []
  | d :: ds => (toP d).bind fun p => (toPL ds).map fun ps => p :: ps
end
theorem dp_scr {K : PySem.W.Frag} {H : Hp} : ∀ ns : List Int, DpAll K H (ns.map V.int) (ns.map PyData.int)
  | [] => .nil
  | n :: ns => .cons (.int n) (dp_scr ns)
theorem dp_kst {K : PySem.W.Frag} {H : Hp} : ∀ ss : List (List Nat), DpAll K H (ss.map fun s => V.str ⟨s.toArray⟩) (ss.map fun s => PyData.str ⟨s.toArray⟩)
  | [] => .nil
  | s :: ss => .cons (.str _) (dp_kst ss)
mutual
theorem dp_of {P H : Hp} (e : Ex P H) : ∀ (d : D) (v : V) (U : FP) (p : PyData), toP d = some p → Rep c P H d v U → Dp c.K H v p
  | .non, v, U, p, h, r => by cases h; rw [r.1]; exact .non
  | .bl b, v, U, p, h, r => by cases h; rw [r.1]; exact .bl b
  | .int b, v, U, p, h, r => by cases h; rw [r.1]; exact .int b
  | .str b, v, U, p, h, r => by cases h; rw [r.1]; exact .str _
  | .scr ns, v, U, p, h, ⟨a, e1, q, _⟩ => by cases h; rw [e1]; exact .lst (sql_mono e q) (dp_scr ns)
  | .kst ss, v, U, p, h, ⟨a, e1, q, _⟩ => by cases h; rw [e1]; exact .tup (sqt_mono e q) (dp_kst ss)
  | .tup ds, v, U, p, h, ⟨a, xs, e1, q, r⟩ => by
    unfold toP at h
    cases z : toPL ds with
    | none => rw [z] at h; cases h
    | some ps => rw [z] at h; cases h; rw [e1]; exact .tup (.inl (.inl (e _ _ q))) (dp_all e ds xs U ps z r)
  | .lst true ds, v, U, p, h, ⟨a, xs, T, e1, q, r, _⟩ => by
    unfold toP at h
    cases z : toPL ds with
    | none => rw [z] at h; cases h
    | some ps => rw [z] at h; cases h; rw [e1]; exact .lst (.inl (.inl q)) (dp_all e ds xs T ps z r)
  | .lst false ds, v, U, p, h, ⟨a, xs, e1, q, r⟩ => by
    unfold toP at h
    cases z : toPL ds with
    | none => rw [z] at h; cases h
    | some ps => rw [z] at h; cases h; rw [e1]; exact .lst (.inl (.inl (e _ _ q))) (dp_all e ds xs U ps z r)
  | .gone, _, _, _, h, _ => by cases h
  | .dK .., _, _, _, h, _ => by cases h
  | .dT .., _, _, _, h, _ => by cases h
  | .obj .., _, _, _, h, _ => by cases h
theorem dp_all {P H : Hp} (e : Ex P H) : ∀ (ds : List D) (vs : List V) (U : FP) (ps : List PyData), toPL ds = some ps → RepL c P H ds vs U → DpAll c.K H vs ps
  | [], vs, U, ps, h, r => by cases h; rw [r.1]; exact .nil
  | d :: ds, vs, U, ps, h, ⟨y, ys, T, T2, e1, r, rs, _⟩ => by
    unfold toPL at h
    cases z : toP d with
    | none => rw [z] at h; cases h
    | some q =>
      cases z2 : toPL ds with
      | none => rw [z, z2] at h; cases h
      | some qs => rw [z, z2] at h; cases h; rw [e1]; exact .cons (dp_of e d y T q z r) (dp_all e ds ys T2 qs z2 rs)
end
def eqB (a b : D) : Option Bool := (toP a).bind fun p => (toP b).bind fun q => if SeqAt.shaped p = true ∧ SeqAt.shaped q = true then some (PyData.eqv p q) else none
def eqD (a b : D) : Option D := (eqB a b).map .bl
def neD (a b : D) : Option D := (eqB a b).map fun k => .bl (!k)
theorem eqB_dp {P H : Hp} (e : Ex P H) {a b : D} {x y : V} {U1 U2 : FP} {k : Bool} (h : eqB a b = some k) (r1 : Rep c P H a x U1) (r2 : Rep c P H b y U2) :
    ∃ p q, Dp c.K H x p ∧ Dp c.K H y q ∧ SeqAt.shaped p = true ∧ SeqAt.shaped q = true ∧ PyData.eqv p q = k := by
  unfold eqB at h
  cases z1 : toP a with
  | none => rw [z1] at h; cases h
  | some p =>
    cases z2 : toP b with
    | none => rw [z1, z2] at h; cases h
    | some q =>
      rw [z1, z2] at h
      simp only [Option.bind_some] at h
      split at h
      · rename_i hs
        cases h
        exact ⟨p, q, dp_of e _ _ _ _ z1 r1, dp_of e _ _ _ _ z2 r2, hs.1, hs.2, rfl⟩
      · cases h
theorem op_eqqD : Op2 c (rEqD c.K) eqD := by
  intro P H e da db d x y U1 U2 hf r1 r2 Q q
  unfold eqD at hf
  cases z : eqB da db with
  | none => rw [z] at hf; cases hf
  | some k =>
    rw [z] at hf; cases hf
    obtain ⟨p, p2, d1, d2, s1, s2, rfl⟩ := eqB_dp e z r1 r2
    exact ⟨p, p2, d1, d2, s1, s2, q.flat e ⟨rfl, rfl⟩⟩
theorem op_neqD : Op2 c (rNeD c.K) neD := by
  intro P H e da db d x y U1 U2 hf r1 r2 Q q
  unfold neD at hf
  cases z : eqB da db with
  | none => rw [z] at hf; cases hf
  | some k =>
    rw [z] at hf; cases hf
    obtain ⟨p, p2, d1, d2, s1, s2, rfl⟩ := eqB_dp e z r1 r2
    exact ⟨p, p2, d1, d2, s1, s2, q.flat e ⟨rfl, rfl⟩⟩

/-! ### is -/
def isNo : D → Option Bool
  | .non => some true
  | .gone => none
  | _ => some false
def isD : D → D → Option D
  | a, .non => (isNo a).map .bl
  | .bl a, .bl b => some (.bl (a == b))
  | _, _ => none
def nisD : D → D → Option D
  | a, .non => (isNo a).map fun k => .bl (!k)
  | .bl a, .bl b => some (.bl (!(a == b)))
  | _, _ => none
theorem isNo_v {P H : Hp} : ∀ {a : D} {x : V} {U : FP} {k : Bool}, isNo a = some k → Rep c P H a x U → decide (x = .non) = k
  | .non, x, U, k, h, r => by cases h; rw [r.1]; rfl
  | .bl _, x, U, k, h, r => by cases h; rw [r.1]; rfl
  | .int _, x, U, k, h, r => by cases h; rw [r.1]; rfl
  | .str _, x, U, k, h, r => by cases h; rw [r.1]; rfl
  | .scr _, x, U, k, h, ⟨_, e, _⟩ => by cases h; rw [e]; rfl
  | .kst _, x, U, k, h, ⟨_, e, _⟩ => by cases h; rw [e]; rfl
  | .tup _, x, U, k, h, ⟨_, _, e, _⟩ => by cases h; rw [e]; rfl
  | .lst true _, x, U, k, h, ⟨_, _, _, e, _⟩ => by cases h; rw [e]; rfl
  | .lst false _, x, U, k, h, ⟨_, _, e, _⟩ => by cases h; rw [e]; rfl
  | .dK true _ _, x, U, k, h, ⟨_, _, _, e, _⟩ => by cases h; rw [e]; rfl
  | .dK false _ _, x, U, k, h, ⟨_, _, e, _⟩ => by cases h; rw [e]; rfl
  | .dT true _ _, x, U, k, h, ⟨_, _, _, e, _⟩ => by cases h; rw [e]; rfl
  | .dT false _ _, x, U, k, h, ⟨_, _, e, _⟩ => by cases h; rw [e]; rfl
  | .obj true _ _ _, x, U, k, h, ⟨_, _, _, _, e, _⟩ => by cases h; rw [e]; rfl
  | .obj false _ _ _, x, U, k, h, ⟨_, _, _, e, _⟩ => by cases h; rw [e]; rfl
theorem opr_is : OpR X (compareOp .Is) (fun x y H Q => (y = .non ∧ Q (.bl (decide (x = .non))) H) ∨ rIsB x y H Q) := OpR_or op_isN op_isBl
theorem opr_nis : OpR X (compareOp .IsNot) (fun x y H Q => (y = .non ∧ Q (.bl (!decide (x = .non))) H) ∨ rNotB x y H Q) := OpR_or op_notN op_notBl
theorem op_isD : Op2 c (fun x y H Q => (y = .non ∧ Q (.bl (decide (x = .non))) H) ∨ rIsB x y H Q) isD := by
  intro P H e da db d x y U1 U2 hf r1 r2 Q q
  unfold isD at hf
  split at hf
  · cases z : isNo da with
    | none => rw [z] at hf; cases hf
    | some k =>
      rw [z] at hf; cases hf
      exact .inl ⟨r2.1, by rw [isNo_v z r1]; exact q.flat e ⟨rfl, rfl⟩⟩
  · cases hf
    exact .inr ⟨_, _, r1.1, r2.1, q.flat e ⟨by congr 1, rfl⟩⟩
  · cases hf
theorem op_nisD : Op2 c (fun x y H Q => (y = .non ∧ Q (.bl (!decide (x = .non))) H) ∨ rNotB x y H Q) nisD := by
  intro P H e da db d x y U1 U2 hf r1 r2 Q q
  unfold nisD at hf
  split at hf
  · cases z : isNo da with
    | none => rw [z] at hf; cases hf
    | some k =>
      rw [z] at hf; cases hf
      exact .inl ⟨r2.1, by rw [isNo_v z r1]; exact q.flat e ⟨rfl, rfl⟩⟩
  · cases hf
    exact .inr ⟨_, _, r1.1, r2.1, q.flat e ⟨by congr 1, rfl⟩⟩
  · cases hf
end
end LI
namespace LI
open PySem L2

/-! ### slots -/
theorem RepE.get {c : LC} {P H : Hp} : ∀ {ρ : List D} {σ : St} {S : FP} {i : Nat} {d : D}, RepE c P H ρ σ S → ρ[i]? = some d → ∃ ov T, σ[i]? = some ov ∧ RepO c P H d ov T ∧ ∀ a, T a ≤ S a
  | [], [], _, i, d, _, e => by simp at e
  | d0 :: ds, v0 :: σ, S, 0, d, ⟨T, U, r, rs, f⟩, e => by
    simp at e; subst e
    exact ⟨v0, T, rfl, r, fun a => by rw [f]; simp only [fa]; omega⟩
  | d0 :: ds, v0 :: σ, S, i + 1, d, ⟨T, U, r, rs, f⟩, e => by
    obtain ⟨ov, T2, h1, h2, h3⟩ := RepE.get (i := i) (d := d) rs (by simpa using e)
    exact ⟨ov, T2, by simpa using h1, h2, fun a => by have := h3 a; rw [f]; simp only [fa]; omega⟩
  | [], _ :: _, _, _, _, h, _ => h.elim
  | _ :: _, [], _, _, _, h, _ => h.elim
def notGone : D → Bool
  | .gone => false
  | _ => true
def vM (i : Nat) : RM := fun ρ => (ρ[i]?).bind fun d => if notGone d = true then some d else none
section
variable {X : Cx} {cl : Nat → Addr} {E : En} {e a b : Expr} {pos : Pos} {m ma mb : RM}
theorem tvar_run {c : LC} {i : Nat} {σ : St} {H : Hp} {Q : VK} (h : tR c E (vM i) σ H Q) : tVar i σ H Q := by
  obtain ⟨P, S, T, ρ, d, w, hm, q⟩ := h
  unfold vM at hm
  cases e : ρ[i]? with
  | none => rw [e] at hm; cases hm
  | some d1 =>
    rw [e] at hm
    simp only [Option.bind_some] at hm
    split at hm
    · rename_i hn
      cases hm
      obtain ⟨ov, T2, h1, h2, _⟩ := w.env.get e
      cases ov with
      | none => rw [h2.1] at hn; cases hn
      | some v => exact ⟨v, h1, q v H P T2 (.refl w.ph) h2⟩
    · cases hm
theorem r_v (i : Nat) {x : Str} (hN : X.N[i]? = some x := by rfl) (hv : Vis X.env.scope x := by first | exact Or.inl rfl | exact Or.inr (Or.inl rfl) | exact Or.inr (Or.inr rfl)) (hd : (x == ("__debug__" : Str)) = false := by decide)
    (hcd : (x == ("__classdict__" : Str)) = false := by decide) : PE X (.Name x pos) (tR ⟨X.K, cl⟩ E (vM i)) := PE_imp (pe_var hN hv hd hcd) fun _ _ _ h => tvar_run h

/-! ### constants -/
def kM (d : D) : RM := fun _ => some d
theorem tc_run {c : LC} {d : D} {v : V} (hr : ∀ P H, Ex P H → Rep c P H d v fz) {σ : St} {H : Hp} {Q : VK} (h : tF c E (kM d) σ H Q) : tC v σ H Q := by
  obtain ⟨P, S, T, ρ, d1, w, hm, q⟩ := h
  cases hm
  exact q.flat w.ph (hr P H w.ph)
theorem f_int {i : Int} {j} : PE X (.Constant (.int i) j pos) (tF ⟨X.K, cl⟩ E (kM (.int i))) := PE_imp pe_int fun _ _ _ h => tc_run (c := ⟨X.K, cl⟩) (d := .int i) (v := .int i) (fun _ _ _ => ⟨rfl, rfl⟩) h
theorem f_bl {k : Bool} {j} : PE X (.Constant (.bool k) j pos) (tF ⟨X.K, cl⟩ E (kM (.bl k))) := PE_imp pe_bl fun _ _ _ h => tc_run (c := ⟨X.K, cl⟩) (d := .bl k) (v := .bl k) (fun _ _ _ => ⟨rfl, rfl⟩) h
theorem f_non {j} : PE X (.Constant .none j pos) (tF ⟨X.K, cl⟩ E (kM .non)) := PE_imp pe_non fun _ _ _ h => tc_run (c := ⟨X.K, cl⟩) (d := .non) (v := .non) (fun _ _ _ => ⟨rfl, rfl⟩) h
theorem f_str {x : Str} {j} (s : List Nat) (hs : x = ⟨s.toArray⟩ := by rfl) : PE X (.Constant (.str x) j pos) (tF ⟨X.K, cl⟩ E (kM (.str s))) := PE_imp pe_str fun _ _ _ h => tc_run (c := ⟨X.K, cl⟩) (d := .str s) (v := .str x) (fun _ _ _ => ⟨by rw [hs], rfl⟩) h
/-- a module's constant -/
theorem f_glob {x : Str} {v : V} {u : Value} (d : D) (hg : Gl X x) (hm : X.mg x = some u) (r : RelV v u) (hr : ∀ P H, Ex P H → Rep ⟨X.K, cl⟩ P H d v fz) (hd : (x == ("__debug__" : Str)) = false := by decide) : PE X (.Name x pos) (tF ⟨X.K, cl⟩ E (kM d)) :=
  PE_imp (pe_glob hg hm r hd) fun _ _ _ h => tc_run hr h

/-! ### one-place -/
def negD : D → Option D
  | .int a => some (.int (-a))
  | _ => none
theorem f_neg (ha : PE X a (tR ⟨X.K, cl⟩ E ma)) : PE X (.UnaryOp .USub a pos) (tF ⟨X.K, cl⟩ E (m1 negD ma)) := PE_imp (pe_un un_neg ha) fun σ H Q ⟨P, S, T, ρ, d, w, hm, q⟩ => by
  unfold m1 at hm
  cases ea : ma ρ with
  | none => rw [ea] at hm; cases hm
  | some da =>
    rw [ea] at hm
    cases da with
    | int i =>
      cases hm
      refine ⟨P, S, T, ρ, .int i, w, ea, fun v H' P' U g r => ⟨i, r.1, ?_⟩⟩
      exact q _ H' P' fz g ⟨rfl, rfl⟩ (fun _ => Nat.zero_le _) fun a z => by simp [fz] at z
    | _ => cases hm

/-! ### argument lists, displays -/
abbrev AM := List D → Option (List D)
def tAR (c : LC) (E : En) (m : AM) : TA := fun σ H Q => ∃ P S T ρ ds, Wd c E P S T σ H ρ ∧ m ρ = some ds ∧ ∀ vs H' P' U, Gr P H P' H' → RepL c P' H' ds vs U → Q vs H'
def nilM : AM := fun _ => some []
def consM (m : RM) (ms : AM) : AM := fun ρ => (m ρ).bind fun d => (ms ρ).map fun ds => d :: ds
theorem a_nil : PA X [] (tAR ⟨X.K, cl⟩ E nilM) := PA_imp pa_nil fun σ H Q ⟨P, S, T, ρ, ds, w, hm, q⟩ => by
  cases hm
  exact q [] H P fz (.refl w.ph) ⟨rfl, rfl⟩
theorem a_cons {es : List Expr} {ms : AM} (h : PE X e (tR ⟨X.K, cl⟩ E m)) (hr : PA X es (tAR ⟨X.K, cl⟩ E ms)) (hs : starEach (e :: es) X.env = (false, eval e X.env) :: starEach es X.env := by rfl) : PA X (e :: es) (tAR ⟨X.K, cl⟩ E (consM m ms)) :=
  PA_imp (pa_cons h hr hs) fun σ H Q ⟨P, S, T, ρ, ds, w, hm, q⟩ => by
    unfold consM at hm
    cases e1 : m ρ with
    | none => rw [e1] at hm; cases hm
    | some d =>
      cases e2 : ms ρ with
      | none => rw [e1, e2] at hm; cases hm
      | some ds' =>
        rw [e1, e2] at hm
        cases hm
        exact ⟨P, S, T, ρ, d, w, e1, fun v H1 P1 U1 g1 r1 => ⟨P1, S, T, ρ, ds', w.grow g1, e2, fun vs H2 P2 U2 g2 r2 => q (v :: vs) H2 P2 (fa U1 U2) (g1.trans g2) ⟨v, vs, U1, U2, rfl, r1.gr g2, r2, rfl⟩⟩⟩
def tupM (ms : AM) : RM := fun ρ => (ms ρ).bind fun ds => if frzL ds = true ∧ ds.length ≤ LIM then some (.tup ds) else none
def lstM (ms : AM) : RM := fun ρ => (ms ρ).bind fun ds => if frzL ds = true ∧ ds.length ≤ LIM then some (.lst true ds) else none
theorem f_tup {es : List Expr} {ms : AM} {x1} (h : PA X es (tAR ⟨X.K, cl⟩ E ms)) : PE X (.Tuple es x1 pos) (tF ⟨X.K, cl⟩ E (tupM ms)) := PE_imp (pe_tup h) fun σ H Q ⟨P, S, T, ρ, d, w, hm, q⟩ => by
  unfold tupM at hm
  cases e1 : ms ρ with
  | none => rw [e1] at hm; cases hm
  | some ds =>
    rw [e1] at hm
    simp only [Option.bind_some] at hm
    split at hm
    · rename_i hf
      cases hm
      refine ⟨P, S, T, ρ, ds, w, e1, fun vs H' P' U g r => ⟨by rw [← r.length]; exact lim_le hf.2, ?_⟩⟩
      have z := RepL.frz0 ds vs U hf.1 r
      subst z
      exact (q.grow g).tup g.ph r
    · cases hm
theorem f_lst {es : List Expr} {ms : AM} (h : PA X es (tAR ⟨X.K, cl⟩ E ms)) : PE X (.List es pos) (tF ⟨X.K, cl⟩ E (lstM ms)) := PE_imp (pe_lst h) fun σ H Q ⟨P, S, T, ρ, d, w, hm, q⟩ => by
  unfold lstM at hm
  cases e1 : ms ρ with
  | none => rw [e1] at hm; cases hm
  | some ds =>
    rw [e1] at hm
    simp only [Option.bind_some] at hm
    split at hm
    · rename_i hf
      cases hm
      refine ⟨P, S, T, ρ, ds, w, e1, fun vs H' P' U g r => ⟨by rw [← r.length]; exact lim_le hf.2, ?_⟩⟩
      have z := RepL.frz0 ds vs U hf.1 r
      subst z
      exact (q.grow g).lst g.ph r
    · cases hm

/-! ### subscripts -/
/-- keys of dicts -/
def keyD : D → Option Key
  | .int i => some (.inl i)
  | .str s => some (.inr ⟨s.toArray⟩)
  | _ => none
def keyDs : List D → Option (List Key)
  | [] => some []
  | d :: ds => (keyD d).bind fun k => (keyDs ds).map fun ks => k :: ks
def keyT : D → Option (List Key)
  | .tup ds => keyDs ds
  | _ => none
theorem keyD_v {c : LC} {P H : Hp} {d : D} {v : V} {U : FP} {k : Key} (h : keyD d = some k) (r : Rep c P H d v U) : v = kV k := by
  unfold keyD at h
  split at h
  · cases h; exact r.1
  · cases h; exact r.1
  · cases h
theorem keyDs_v {c : LC} {P H : Hp} : ∀ {ds : List D} {vs : List V} {U : FP} {ks : List Key}, keyDs ds = some ks → RepL c P H ds vs U → vs = ks.map kV
  | [], vs, U, ks, h, r => by cases h; rw [r.1]; rfl
  | d :: ds, vs, U, ks, h, ⟨y, ys, T, T2, e1, r, rs, _⟩ => by
    unfold keyDs at h
    cases z : keyD d with
    | none => rw [z] at h; cases h
    | some k =>
      cases z2 : keyDs ds with
      | none => rw [z, z2] at h; cases h
      | some ks' =>
        rw [z, z2] at h; cases h
        rw [e1, keyD_v z r, keyDs_v z2 rs]; rfl
/-- the value under a key -/
def under {κ : Type} [DecidableEq κ] : List κ → List D → κ → Option D
  | k :: ks, d :: ds, x => if k = x then some d else under ks ds x
  | _, _, _ => none
def atD (ds : List D) (i : Int) : Option D := atI ds i
def ixD : D → D → Option D
  | .lst _ ds, .int i => atI ds i
  | .tup ds, .int i => atI ds i
  | .scr ns, .int i => (atI ns i).map .int
  | .str s, .int i => if s.length ≤ LIM then (atI s i).map fun k => .str [k] else none
  | .dK _ ks ds, k => (keyD k).bind fun k => under ks ds k
  | .dT _ ks ds, k => (keyT k).bind fun k => under ks ds k
  | _, _ => none
theorem atI_rep {c : LC} {P H : Hp} {ds : List D} {xs : List V} {S : FP} {i : Int} {d : D} (r : RepL c P H ds xs S) (h : atI ds i = some d) : ∃ x T, atI xs i = some x ∧ Rep c P H d x T ∧ ∀ a, T a ≤ S a := by
  unfold atI at h ⊢
  rw [← r.length]
  cases e : ixN ds.length i with
  | none => rw [e] at h; cases h
  | some j => rw [e] at h; exact r.get h
theorem atI_map {α β : Type} (f : α → β) (xs : List α) (i : Int) : atI (xs.map f) i = (atI xs i).map f := by
  unfold atI
  rw [List.length_map]
  cases ixN xs.length i with
  | none => rfl
  | some j => simp
end
theorem under_rep {c : LC} {P H : Hp} {κ : Type} [DecidableEq κ] : ∀ {ks : List κ} {ds : List D} {xs : List V} {S : FP} {k : κ} {d : D}, RepL c P H ds xs S → ks.length = xs.length → under ks ds k = some d → ∃ x T, (ks.zip xs).find? (fun p => decide (p.1 = k)) = some (k, x) ∧ Rep c P H d x T ∧ ∀ a, T a ≤ S a
  | [], ds, xs, S, k, d, r, n, h => by simp [under] at h
  | k0 :: ks, [], xs, S, k, d, r, n, h => by simp [under] at h
  | k0 :: ks, d0 :: ds, xs, S, k, d, ⟨y, ys, T, T2, e1, r, rs, f⟩, n, h => by
    subst e1
    unfold under at h
    by_cases q : k0 = k
    · rw [if_pos q] at h
      cases h
      exact ⟨y, T, by simp [q], r, fun a => by rw [f]; simp only [fa]; omega⟩
    · rw [if_neg q] at h
      obtain ⟨x, T3, h1, h2, h3⟩ := under_rep rs (by simpa using n) h
      exact ⟨x, T3, by simp [q, h1], h2, fun a => by have := h3 a; rw [f]; simp only [fa]; omega⟩
end LI
namespace LI
open PySem L2

theorem PE_or {X : Cx} {e : Expr} {t u : TE} (h : PE X e t) (k : PE X e u) : PE X e (fun σ H Q => t σ H Q ∨ u σ H Q) := ⟨fun pins s σ H Q I q => q.elim (h.run pins s σ H Q I) (k.run pins s σ H Q I)⟩
theorem PT_or {X : Cx} {e : Expr} {t u : TT} (h : PT X e t) (k : PT X e u) : PT X e (fun σ H Q => t σ H Q ∨ u σ H Q) := ⟨fun pins s σ H Q I q => q.elim (h.run pins s σ H Q I) (k.run pins s σ H Q I)⟩

/-! ### subscripts -/
theorem rep_kst {c : LC} {P H : Hp} {ss : List (List Nat)} {v : V} {U : FP} (r : Rep c P H (.kst ss) v U) : ∃ a, v = .ref a ∧ SqT c.K P a (ss.map fun s => V.str ⟨s.toArray⟩) := let ⟨a, e, q, _⟩ := r; ⟨a, e, q⟩
theorem dict_under {c : LC} {P H : Hp} (e : Ex P H) {dt : D} {x y : V} {U1 U2 : FP} {dk : D} :
    (∀ o ks ds, dt = .dK o ks ds → ∀ k, keyD dk = some k → Rep c P H dt x U1 → Rep c P H dk y U2 → ∃ a xs, x = .ref a ∧ H a = some (.dK (ks.zip xs)) ∧ ks.length = xs.length ∧ y = kV k ∧ ∃ T, RepL c P H ds xs T) ∧
    (∀ o ks ds, dt = .dT o ks ds → ∀ k, keyT dk = some k → Rep c P H dt x U1 → Rep c P H dk y U2 → ∃ a b xs, x = .ref a ∧ H a = some (.dT (ks.zip xs)) ∧ ks.length = xs.length ∧ y = .ref b ∧ H b = some (.tup (k.map kV)) ∧ ∃ T, RepL c P H ds xs T) := by
  refine ⟨fun o ks ds hd k hk r1 r2 => ?_, fun o ks ds hd k hk r1 r2 => ?_⟩
  · subst hd
    cases o with
    | true => obtain ⟨a, xs, T, e1, h, n, rl, _⟩ := r1; exact ⟨a, xs, e1, h, n, keyD_v hk r2, T, rl⟩
    | false => obtain ⟨a, xs, e1, h, n, rl⟩ := r1; exact ⟨a, xs, e1, e _ _ h, n, keyD_v hk r2, U1, rl⟩
  · subst hd
    cases dk with
    | tup kds =>
      obtain ⟨b, ys, e2, hb, rk⟩ := r2
      have ek := keyDs_v (show keyDs kds = some k from hk) rk
      subst ek
      cases o with
      | true => obtain ⟨a, xs, T, e1, h, n, rl, _⟩ := r1; exact ⟨a, b, xs, e1, h, n, e2, e _ _ hb, T, rl⟩
      | false => obtain ⟨a, xs, e1, h, n, rl⟩ := r1; exact ⟨a, b, xs, e1, e _ _ h, n, e2, e _ _ hb, U1, rl⟩
    | _ => cases hk
theorem under_val {c : LC} {P H : Hp} {κ : Type} [DecidableEq κ] {ks : List κ} {ds : List D} {xs : List V} {S : FP} {k : κ} {d : D} (r : RepL c P H ds xs S) (n : ks.length = xs.length) (h : under ks ds k = some d) : ∃ x T, valV (ks.zip xs) k = some x ∧ Rep c P H d x T := by
  obtain ⟨x, T, h1, h2, _⟩ := under_rep r n h
  exact ⟨x, T, by unfold valV; rw [h1]; rfl, h2⟩
theorem under_none {c : LC} {P H : Hp} {κ : Type} [DecidableEq κ] : ∀ {ks : List κ} {ds : List D} {xs : List V} {S : FP} {k : κ}, RepL c P H ds xs S → ks.length = xs.length → under ks ds k = none → valV (ks.zip xs) k = none
  | [], ds, xs, S, k, r, n, h => by simp [valV]
  | k0 :: ks, [], xs, S, k, r, n, h => by rw [r.1] at n; simp at n
  | k0 :: ks, d0 :: ds, xs, S, k, ⟨y, ys, T, T2, e1, r, rs, f⟩, n, h => by
    subst e1
    unfold under at h
    by_cases q : k0 = k
    · rw [if_pos q] at h; cases h
    · rw [if_neg q] at h
      have := under_none rs (by simpa using n) h
      rw [List.zip_cons_cons, valV_neg (by simpa using q)]
      exact this
section
variable {X : Cx} {cl : Nat → Addr} {E : En} {e a b : Expr} {pos : Pos} {m ma mb : RM}
theorem r_ix (hu : X.A.units + 64 < cLine) (ha : PE X a (tR ⟨X.K, cl⟩ E ma)) (hb : PE X b (tR ⟨X.K, cl⟩ E mb)) (hs : PlainIx b := by exact fun _ _ => rfl) : PE X (.Subscript a b pos) (tR ⟨X.K, cl⟩ E (m2 ixD ma mb)) := by
  refine PE_imp (PE_or (pe_ix ix_seq ha hb hs) (pe_dget (Nat.lt_of_le_of_lt (by omega) hu) ha hb hs)) fun σ H Q ⟨P, S, T, ρ, d, w, hm, q⟩ => ?_
  unfold m2 at hm
  cases ea : ma ρ with
  | none => rw [ea] at hm; cases hm
  | some da =>
    cases eb : mb ρ with
    | none => rw [ea, eb] at hm; cases hm
    | some db =>
      rw [ea, eb] at hm
      replace hm : ixD da db = some d := hm
      unfold ixD at hm
      split at hm
      · rename_i o ds i
        left
        refine ⟨P, S, T, ρ, .lst o ds, w, ea, fun x H1 P1 U1 g1 r1 => ⟨P1, S, T, ρ, .int i, w.grow g1, eb, fun y H2 P2 U2 g2 r2 => ?_⟩⟩
        obtain ⟨p, xs, T', e1, hh, rl, _⟩ := lst_heap g2.ph (r1.gr g2)
        obtain ⟨z, T2, h1, h2, _⟩ := atI_rep rl hm
        exact .inl ⟨p, xs, i, z, e1, r2.1, .inl (.inl hh), h1, q z H2 P2 T2 (g1.trans g2) h2⟩
      · rename_i ds i
        left
        refine ⟨P, S, T, ρ, .tup ds, w, ea, fun x H1 P1 U1 g1 r1 => ⟨P1, S, T, ρ, .int i, w.grow g1, eb, fun y H2 P2 U2 g2 r2 => ?_⟩⟩
        obtain ⟨p, xs, e1, hh, rl⟩ := r1.gr g2
        obtain ⟨z, T2, h1, h2, _⟩ := atI_rep rl hm
        exact .inr (.inl ⟨p, xs, i, z, e1, r2.1, .inl (.inl (g2.ph _ _ hh)), h1, q z H2 P2 T2 (g1.trans g2) h2⟩)
      · rename_i ns i
        left
        refine ⟨P, S, T, ρ, .scr ns, w, ea, fun x H1 P1 U1 g1 r1 => ⟨P1, S, T, ρ, .int i, w.grow g1, eb, fun y H2 P2 U2 g2 r2 => ?_⟩⟩
        obtain ⟨p, e1, hh, _⟩ := r1.gr g2
        cases z : atI ns i with
        | none => rw [z] at hm; cases hm
        | some k =>
          rw [z] at hm; cases hm
          exact .inl ⟨p, _, i, .int k, e1, r2.1, sql_mono g2.ph hh, by rw [atI_map, z]; rfl, q _ H2 P2 fz (g1.trans g2) ⟨rfl, rfl⟩⟩
      · rename_i s i
        split at hm
        · rename_i hl
          left
          refine ⟨P, S, T, ρ, .str s, w, ea, fun x H1 P1 U1 g1 r1 => ⟨P1, S, T, ρ, .int i, w.grow g1, eb, fun y H2 P2 U2 g2 r2 => ?_⟩⟩
          cases z : atI s i with
          | none => rw [z] at hm; cases hm
          | some k =>
            rw [z] at hm; cases hm
            exact .inr (.inr ⟨⟨s.toArray⟩, i, k, r1.1, r2.1, by rw [str_len]; exact lim_le hl, by simpa using z, q _ H2 P2 fz (g1.trans g2) ⟨rfl, rfl⟩⟩)
        · cases hm
      · rename_i o ks ds
        right
        cases z : keyD db with
        | none => rw [z] at hm; cases hm
        | some k =>
          rw [z] at hm
          refine ⟨P, S, T, ρ, .dK o ks ds, w, ea, fun x H1 P1 U1 g1 r1 => ⟨P1, S, T, ρ, _, w.grow g1, eb, fun y H2 P2 U2 g2 r2 => ?_⟩⟩
          obtain ⟨p, xs, e1, hh, n, ey, T', rl⟩ := (dict_under g2.ph).1 o ks ds rfl k z (r1.gr g2) r2
          obtain ⟨v, T2, h1, h2⟩ := under_val rl n hm
          exact ⟨p, v, e1, .inl ⟨_, k, .inl hh, ey, h1.symm⟩, q v H2 P2 T2 (g1.trans g2) h2⟩
      · rename_i o ks ds
        right
        cases z : keyT db with
        | none => rw [z] at hm; cases hm
        | some k =>
          rw [z] at hm
          refine ⟨P, S, T, ρ, .dT o ks ds, w, ea, fun x H1 P1 U1 g1 r1 => ⟨P1, S, T, ρ, _, w.grow g1, eb, fun y H2 P2 U2 g2 r2 => ?_⟩⟩
          obtain ⟨p, b', xs, e1, hh, n, ey, hb', T', rl⟩ := (dict_under g2.ph).2 o ks ds rfl k z (r1.gr g2) r2
          obtain ⟨v, T2, h1, h2⟩ := under_val rl n hm
          exact ⟨p, v, e1, .inr ⟨_, k, b', .inl hh, ey, hb', h1.symm⟩, q v H2 P2 T2 (g1.trans g2) h2⟩
      · cases hm

/-! ### slices -/
def cutL {α : Type} (xs : List α) (lo hi : Option Int) : List α := (xs.drop (HT.sIx xs.length 0 lo)).take (HT.sIx xs.length xs.length hi - HT.sIx xs.length 0 lo)
def slD (lo hi : Option Int) : D → Option D
  | .lst _ ds => if frzL ds = true then some (.lst true (cutL ds lo hi)) else none
  | .tup ds => if frzL ds = true then some (.tup (cutL ds lo hi)) else none
  | .scr ns => some (.lst true ((cutL ns lo hi).map .int))
  | .str s => if s.length ≤ LIM then some (.str (cutL s lo hi)) else none
  | _ => none
abbrev OM := List D → Option (Option Int)
def noM : OM := fun _ => some none
def soM (m : RM) : OM := fun ρ => (m ρ).bind fun d => match d with | .int i => some (some i) | _ => none
def slM (m : RM) (lo hi : OM) : RM := fun ρ => (m ρ).bind fun d => (lo ρ).bind fun l => (hi ρ).bind fun h => slD l h d
def tOM (c : LC) (E : En) (m : OM) : TO := fun σ H Q => ∃ P S T ρ o, Wd c E P S T σ H ρ ∧ m ρ = some o ∧ ∀ H' P', Gr P H P' H' → Q o H'
theorem o_none : PO X none (tOM ⟨X.K, cl⟩ E noM) := ⟨fun pins s σ H Q I ⟨P, S, T, ρ, o, w, hm, q⟩ => by
  cases hm
  exact po_none.run pins s σ H Q I (q H P (.refl w.ph))⟩
theorem o_some (h : PE X e (tR ⟨X.K, cl⟩ E m)) : PO X (some e) (tOM ⟨X.K, cl⟩ E (soM m)) := ⟨fun pins s σ H Q I ⟨P, S, T, ρ, o, w, hm, q⟩ => by
  refine (po_some h).run pins s σ H Q I ?_
  unfold soM at hm
  cases ea : m ρ with
  | none => rw [ea] at hm; cases hm
  | some da =>
    rw [ea] at hm
    cases da with
    | int i =>
      cases hm
      exact ⟨P, S, T, ρ, .int i, w, ea, fun v H' P' U g r => ⟨i, r.1, q H' P' g⟩⟩
    | _ => cases hm⟩
theorem RepL.cut {c : LC} {P H : Hp} {ds : List D} {xs : List V} (r : RepL c P H ds xs fz) (lo hi : Option Int) : RepL c P H (cutL ds lo hi) (cutV xs lo hi) fz := by
  unfold cutL cutV
  rw [r.length]
  exact (r.drop _).take _
theorem cutL_map {α β : Type} (f : α → β) (xs : List α) (lo hi : Option Int) : cutL (xs.map f) lo hi = (cutL xs lo hi).map f := by
  unfold cutL
  rw [List.length_map, ← List.map_drop, ← List.map_take]
theorem repL_ints {c : LC} {P H : Hp} : ∀ ns : List Int, RepL c P H (ns.map .int) (ns.map .int) fz
  | [] => ⟨rfl, rfl⟩
  | n :: ns => ⟨.int n, _, fz, fz, rfl, ⟨rfl, rfl⟩, repL_ints ns, (fa_fz fz).symm⟩
theorem f_sl {lo hi : Option Expr} {ml mh : OM} {p2 : Pos} (ha : PE X a (tR ⟨X.K, cl⟩ E ma)) (hl : PO X lo (tOM ⟨X.K, cl⟩ E ml)) (hh : PO X hi (tOM ⟨X.K, cl⟩ E mh)) : PE X (.Subscript a (.Slice lo hi none p2) pos) (tF ⟨X.K, cl⟩ E (slM ma ml mh)) := by
  refine PE_imp (pe_slice (SlR.or sl_list (SlR.or sl_tupA sl_str)) ha hl hh) fun σ H Q ⟨P, S, T, ρ, d, w, hm, q⟩ => ?_
  unfold slM at hm
  cases ea : ma ρ with
  | none => rw [ea] at hm; cases hm
  | some da =>
    cases el : ml ρ with
    | none => rw [ea, el] at hm; cases hm
    | some l =>
      cases eh : mh ρ with
      | none => rw [ea, el, eh] at hm; cases hm
      | some h =>
        rw [ea, el, eh] at hm
        replace hm : slD l h da = some d := hm
        refine ⟨P, S, T, ρ, da, w, ea, fun x H1 P1 U1 g1 r1 => ⟨P1, S, T, ρ, l, w.grow g1, el, fun H2 P2 g2 => ⟨P2, S, T, ρ, h, (w.grow g1).grow g2, eh, fun H3 P3 g3 => ?_⟩⟩⟩
        have r3 := (r1.gr g2).gr g3
        have gg := (g1.trans g2).trans g3
        unfold slD at hm
        split at hm
        · rename_i o ds
          split at hm
          · rename_i hf
            cases hm
            obtain ⟨p, xs, e1, hh, rl⟩ := lst_heap0 g3.ph r3 hf
            exact .inl ⟨p, xs, e1, .inl (.inl hh), (q.grow gg).lst g3.ph (rl.cut l h)⟩
          · cases hm
        · rename_i ds
          split at hm
          · rename_i hf
            cases hm
            obtain ⟨p, xs, e1, hh, hp, rl⟩ := tup_heap0 g3.ph r3 hf
            refine .inr (.inl ⟨p, xs, e1, hh, fun z => ?_, fun _ => (q.grow gg).tup g3.ph (rl.cut l h)⟩)
            have e2 : cutL ds l h = ds := by
              unfold cutL
              rw [rl.length, z.1, z.2, List.drop_zero, Nat.sub_zero, ← rl.length, List.take_length]
            rw [e2] at q
            exact (q.grow gg).flat g3.ph ⟨p, xs, e1 ▸ rfl, hp, rl⟩
          · cases hm
        · rename_i ns
          cases hm
          obtain ⟨p, e1, hh, _⟩ := r3
          refine .inl ⟨p, _, e1, sql_mono g3.ph hh, ?_⟩
          have := (q.grow gg).lst (xs := (cutL ns l h).map .int) g3.ph (repL_ints _)
          have e2 : cutV (ns.map V.int) l h = (cutL ns l h).map .int := cutL_map V.int ns l h
          rw [e2]
          exact this
        · rename_i s
          split at hm
          · rename_i hl
            cases hm
            refine .inr (.inr ⟨⟨s.toArray⟩, r3.1, by rw [str_len]; exact lim_le hl, (q.grow gg).flat g3.ph ⟨?_, rfl⟩⟩)
            unfold cutS cutL
            rw [str_len]
          · cases hm
        · cases hm

/-! ### in -/
def flatD : D → Bool
  | .non => true | .bl _ => true | .int _ => true | .str _ => true | _ => false
def eqF : D → D → Bool
  | .non, .non => true
  | .bl a, .bl b => a == b
  | .bl a, .int b => (if a then 1 else 0) == b
  | .int a, .bl b => a == (if b then 1 else 0)
  | .int a, .int b => a == b
  | .str a, .str b => a == b
  | _, _ => false
theorem flat_v {c : LC} {P H : Hp} : ∀ {d : D} {v : V} {U : FP}, flatD d = true → Rep c P H d v U → flatV v = true
  | .non, v, U, _, r => by rw [r.1]; rfl
  | .bl _, v, U, _, r => by rw [r.1]; rfl
  | .int _, v, U, _, r => by rw [r.1]; rfl
  | .str _, v, U, _, r => by rw [r.1]; rfl
theorem str_beq (a b : List Nat) : ((⟨a.toArray⟩ : Str) == ⟨b.toArray⟩) = (a == b) := by
  rw [Bool.eq_iff_iff, beq_iff_eq, beq_iff_eq]
  exact ⟨fun h => by have := congrArg (fun z : Str => z.cps.toList) h; simpa using this, fun h => by rw [h]⟩
theorem eqF_v {c : LC} {P H : Hp} {d e : D} {v u : V} {U1 U2 : FP} (h1 : flatD d = true) (h2 : flatD e = true) (r1 : Rep c P H d v U1) (r2 : Rep c P H e u U2) : eqV v u = eqF d e := by
  cases d <;> first | cases h1 | skip
  all_goals (cases e <;> first | cases h2 | skip)
  all_goals (rw [r1.1, r2.1])
  all_goals first
    | rfl
    | exact str_beq _ _
theorem any_v {c : LC} {P H : Hp} {d : D} {v : V} {U1 : FP} (h1 : flatD d = true) (r1 : Rep c P H d v U1) : ∀ {ds : List D} {xs : List V} {U2 : FP}, ds.all flatD = true → RepL c P H ds xs U2 → xs.all flatV = true ∧ inV v xs = ds.any (fun y => eqF y d)
  | [], xs, U2, _, r => by rw [r.1]; exact ⟨rfl, rfl⟩
  | e :: ds, xs, U2, h, ⟨y, ys, T, T2, e1, r, rs, _⟩ => by
    simp only [List.all_cons, Bool.and_eq_true] at h
    obtain ⟨k1, k2⟩ := any_v h1 r1 h.2 rs
    subst e1
    refine ⟨by rw [List.all_cons, flat_v h.1 r, k1]; rfl, ?_⟩
    unfold inV at k2 ⊢
    rw [List.any_cons, List.any_cons, k2, eqF_v h.1 h1 r r1]
def inB : D → D → Option Bool
  | .str [k], .str z => some (decide (k ∈ z))
  | x, .lst _ ds => if flatD x = true ∧ ds.all flatD = true then some (ds.any fun y => eqF y x) else none
  | x, .tup ds => if flatD x = true ∧ ds.all flatD = true then some (ds.any fun y => eqF y x) else none
  | .str x, .kst ss => some (ss.any fun y => y == x)
  | x, .dK _ ks ds => (keyD x).map fun k => (under ks ds k).isSome
  | x, .dT _ ks ds => (keyT x).map fun k => (under ks ds k).isSome
  | _, _ => none
def inD (x y : D) : Option D := (inB x y).map .bl
def ninD (x y : D) : Option D := (inB x y).map fun k => .bl (!k)
theorem kst_any {x : List Nat} : ∀ ss : List (List Nat), (ss.map fun s => V.str ⟨s.toArray⟩).all flatV = true ∧ inV (.str ⟨x.toArray⟩) (ss.map fun s => V.str ⟨s.toArray⟩) = ss.any fun y => y == x
  | [] => ⟨rfl, rfl⟩
  | s :: ss => by
    obtain ⟨h1, h2⟩ := kst_any (x := x) ss
    refine ⟨by rw [List.map_cons, List.all_cons, h1]; rfl, ?_⟩
    unfold inV at h2 ⊢
    rw [List.map_cons, List.any_cons, List.any_cons, h2]
    show ((⟨s.toArray⟩ : Str) == ⟨x.toArray⟩ || _) = _
    rw [str_beq]
theorem isSome_under {c : LC} {P H : Hp} {κ : Type} [DecidableEq κ] {ks : List κ} {ds : List D} {xs : List V} {S : FP} {k : κ} (r : RepL c P H ds xs S) (n : ks.length = xs.length) : (valV (ks.zip xs) k).isSome = (under ks ds k).isSome := by
  cases h : under ks ds k with
  | none => rw [under_none r n h]; rfl
  | some d => obtain ⟨x, T, h1, _⟩ := under_val r n h; rw [h1]; rfl
/-- in, by any of the rules -/
def tIn (K : PySem.W.Frag) (neg : Bool) (ta tb : TE) : TE := fun σ H Q =>
  tOp (fun x y H Q => (∃ (c : Nat) (z : Str), x = .str ⟨#[c]⟩ ∧ y = .str z ∧ Q (.bl (if neg then !decide (c ∈ z.cps.toList) else decide (c ∈ z.cps.toList))) H) ∨ rIn K neg x y H Q) ta tb σ H Q ∨ (if neg then tDNotIn ta tb else tDIn ta tb) σ H Q
theorem tIn_run {c : LC} {neg : Bool} {σ : St} {H : Hp} {Q : VK} {P : Hp} {S T : FP} {ρ : List D} {da db : D} {k : Bool} (w : Wd c E P S T σ H ρ) (ea : ma ρ = some da) (eb : mb ρ = some db) (hm : inB da db = some k)
    (q : ∀ H' P', Gr P H P' H' → Q (.bl (if neg then !k else k)) H') : tIn c.K neg (tR c E ma) (tR c E mb) σ H Q := by
  have seq : ∀ (hf : flatD da = true) (ds : List D), ds.all flatD = true → (k = ds.any fun y => eqF y da) → ∀ H2 P2 x y U1, Gr P H P2 H2 → Rep c P2 H2 da x U1 → (∃ p xs U2, y = V.ref p ∧ (SqL c.K H2 p xs ∨ SqT c.K H2 p xs) ∧ RepL c P2 H2 ds xs U2) → rIn c.K neg x y H2 Q := by
    intro hf ds hds hk H2 P2 x y U1 g r1 ⟨p, xs, U2, e1, hs, rl⟩
    obtain ⟨k1, k2⟩ := any_v hf r1 hds rl
    refine ⟨p, xs, e1, hs, flat_v hf r1, k1, ?_⟩
    rw [k2, ← hk]
    exact q H2 P2 g
  unfold inB at hm
  split at hm
  · rename_i j z
    cases hm
    refine .inl ⟨P, S, T, ρ, _, w, ea, fun x H1 P1 U1 g1 r1 => ⟨P1, S, T, ρ, _, w.grow g1, eb, fun y H2 P2 U2 g2 r2 => .inl ⟨j, _, r1.1, r2.1, by simpa using q H2 P2 (g1.trans g2)⟩⟩⟩
  · rename_i o ds
    split at hm
    · rename_i hf
      cases hm
      refine .inl ⟨P, S, T, ρ, _, w, ea, fun x H1 P1 U1 g1 r1 => ⟨P1, S, T, ρ, _, w.grow g1, eb, fun y H2 P2 U2 g2 r2 => .inr ?_⟩⟩
      obtain ⟨p, xs, T', e1, hh, rl, _⟩ := lst_heap g2.ph r2
      exact seq hf.1 ds hf.2 rfl H2 P2 x y U1 (g1.trans g2) (r1.gr g2) ⟨p, xs, T', e1, .inl (.inl (.inl hh)), rl⟩
    · cases hm
  · rename_i ds
    split at hm
    · rename_i hf
      cases hm
      refine .inl ⟨P, S, T, ρ, _, w, ea, fun x H1 P1 U1 g1 r1 => ⟨P1, S, T, ρ, _, w.grow g1, eb, fun y H2 P2 U2 g2 r2 => .inr ?_⟩⟩
      obtain ⟨p, xs, e1, hh, rl⟩ := r2
      exact seq hf.1 ds hf.2 rfl H2 P2 x y U1 (g1.trans g2) (r1.gr g2) ⟨p, xs, U2, e1, .inr (.inl (.inl (g2.ph _ _ hh))), rl⟩
    · cases hm
  · rename_i x0 ss
    cases hm
    refine .inl ⟨P, S, T, ρ, _, w, ea, fun x H1 P1 U1 g1 r1 => ⟨P1, S, T, ρ, _, w.grow g1, eb, fun y H2 P2 U2 g2 r2 => .inr ?_⟩⟩
    obtain ⟨p, e1, hh, _⟩ := r2
    obtain ⟨k1, k2⟩ := kst_any (x := x0) ss
    refine ⟨p, _, e1, .inr (sqt_mono g2.ph hh), by rw [r1.1]; rfl, k1, ?_⟩
    rw [r1.1, k2]
    exact q H2 P2 (g1.trans g2)
  · rename_i o ks ds
    cases z : keyD da with
    | none => rw [z] at hm; cases hm
    | some kk =>
      rw [z] at hm
      cases hm
      right
      have run : ∀ H2 P2 x y U1 U2, Gr P H P2 H2 → Rep c P2 H2 da x U1 → Rep c P2 H2 (.dK o ks ds) y U2 → ∃ a o', y = V.ref a ∧ DGet H2 a x o' ∧ o'.isSome = (under ks ds kk).isSome := by
        intro H2 P2 x y U1 U2 g r1 r2
        obtain ⟨p, xs, e1, hh, n, ey, T', rl⟩ := (dict_under g.ph).1 o ks ds rfl kk z r2 r1
        exact ⟨p, _, e1, .inl ⟨_, kk, .inl hh, ey, rfl⟩, isSome_under rl n⟩
      cases neg with
      | true =>
        refine ⟨P, S, T, ρ, _, w, ea, fun x H1 P1 U1 g1 r1 => ⟨P1, S, T, ρ, _, w.grow g1, eb, fun y H2 P2 U2 g2 r2 => ?_⟩⟩
        obtain ⟨a, o', e1, dg, es⟩ := run H2 P2 x y U1 U2 (g1.trans g2) (r1.gr g2) r2
        exact ⟨a, o', e1, dg, by rw [es]; exact q H2 P2 (g1.trans g2)⟩
      | false =>
        refine ⟨P, S, T, ρ, _, w, ea, fun x H1 P1 U1 g1 r1 => ⟨P1, S, T, ρ, _, w.grow g1, eb, fun y H2 P2 U2 g2 r2 => ?_⟩⟩
        obtain ⟨a, o', e1, dg, es⟩ := run H2 P2 x y U1 U2 (g1.trans g2) (r1.gr g2) r2
        exact ⟨a, o', e1, dg, by rw [es]; exact q H2 P2 (g1.trans g2)⟩
  · rename_i o ks ds
    cases z : keyT da with
    | none => rw [z] at hm; cases hm
    | some kk =>
      rw [z] at hm
      cases hm
      right
      have run : ∀ H2 P2 x y U1 U2, Gr P H P2 H2 → Rep c P2 H2 da x U1 → Rep c P2 H2 (.dT o ks ds) y U2 → ∃ a o', y = V.ref a ∧ DGet H2 a x o' ∧ o'.isSome = (under ks ds kk).isSome := by
        intro H2 P2 x y U1 U2 g r1 r2
        obtain ⟨p, b', xs, e1, hh, n, ey, hb', T', rl⟩ := (dict_under g.ph).2 o ks ds rfl kk z r2 r1
        exact ⟨p, _, e1, .inr ⟨_, kk, b', .inl hh, ey, hb', rfl⟩, isSome_under rl n⟩
      cases neg with
      | true =>
        refine ⟨P, S, T, ρ, _, w, ea, fun x H1 P1 U1 g1 r1 => ⟨P1, S, T, ρ, _, w.grow g1, eb, fun y H2 P2 U2 g2 r2 => ?_⟩⟩
        obtain ⟨a, o', e1, dg, es⟩ := run H2 P2 x y U1 U2 (g1.trans g2) (r1.gr g2) r2
        exact ⟨a, o', e1, dg, by rw [es]; exact q H2 P2 (g1.trans g2)⟩
      | false =>
        refine ⟨P, S, T, ρ, _, w, ea, fun x H1 P1 U1 g1 r1 => ⟨P1, S, T, ρ, _, w.grow g1, eb, fun y H2 P2 U2 g2 r2 => ?_⟩⟩
        obtain ⟨a, o', e1, dg, es⟩ := run H2 P2 x y U1 U2 (g1.trans g2) (r1.gr g2) r2
        exact ⟨a, o', e1, dg, by rw [es]; exact q H2 P2 (g1.trans g2)⟩
  · cases hm
theorem opr_inS : OpR X (compareOp .In) (fun x y H Q => (∃ (c : Nat) (z : Str), x = .str ⟨#[c]⟩ ∧ y = .str z ∧ Q (.bl (if false = true then !decide (c ∈ z.cps.toList) else decide (c ∈ z.cps.toList))) H) ∨ rIn X.K false x y H Q) := OpR_or op_in_sign op_in_seq
theorem opr_ninS : OpR X (compareOp .NotIn) (fun x y H Q => (∃ (c : Nat) (z : Str), x = .str ⟨#[c]⟩ ∧ y = .str z ∧ Q (.bl (if true = true then !decide (c ∈ z.cps.toList) else decide (c ∈ z.cps.toList))) H) ∨ rIn X.K true x y H Q) := OpR_or op_notIn_sign op_notIn_seq
theorem m2_split {f : D → D → Option D} {ρ : List D} {d : D} (h : m2 f ma mb ρ = some d) : ∃ da db, ma ρ = some da ∧ mb ρ = some db ∧ f da db = some d := by
  unfold m2 at h
  cases ea : ma ρ with
  | none => rw [ea] at h; cases h
  | some da =>
    cases eb : mb ρ with
    | none => rw [ea, eb] at h; cases h
    | some db => rw [ea, eb] at h; exact ⟨da, db, rfl, rfl, h⟩
theorem inD_split {x y d : D} (h : inD x y = some d) : ∃ k, inB x y = some k ∧ d = .bl k := by
  unfold inD at h
  cases z : inB x y with
  | none => rw [z] at h; cases h
  | some k => rw [z] at h; cases h; exact ⟨k, rfl, rfl⟩
theorem ninD_split {x y d : D} (h : ninD x y = some d) : ∃ k, inB x y = some k ∧ d = .bl (!k) := by
  unfold ninD at h
  cases z : inB x y with
  | none => rw [z] at h; cases h
  | some k => rw [z] at h; cases h; exact ⟨k, rfl, rfl⟩
theorem f_in (hu : X.A.units + 64 < cLine) (ha : PE X a (tR ⟨X.K, cl⟩ E ma)) (hb : PE X b (tR ⟨X.K, cl⟩ E mb)) (hm : behindInMarks .In b = false := by rfl) : PE X (.Compare a [.In] [b] pos) (tF ⟨X.K, cl⟩ E (m2 inD ma mb)) :=
  PE_imp (PE_or (pe_cmpR opr_inS ha hb hm) (pe_cmp (pc_din (Nat.lt_of_le_of_lt (by omega) hu) ha hb) hm)) fun σ H Q ⟨P, S, T, ρ, d, w, h, q⟩ => by
    obtain ⟨da, db, ea, eb, h⟩ := m2_split h
    obtain ⟨k, h2, rfl⟩ := inD_split h
    exact tIn_run (neg := false) w ea eb h2 fun H' P' g => q _ H' P' fz g ⟨rfl, rfl⟩ (fun _ => Nat.zero_le _) fun a z => by simp [fz] at z
theorem f_nin (hu : X.A.units + 64 < cLine) (ha : PE X a (tR ⟨X.K, cl⟩ E ma)) (hb : PE X b (tR ⟨X.K, cl⟩ E mb)) (hm : behindInMarks .NotIn b = false := by rfl) : PE X (.Compare a [.NotIn] [b] pos) (tF ⟨X.K, cl⟩ E (m2 ninD ma mb)) :=
  PE_imp (PE_or (pe_cmpR opr_ninS ha hb hm) (pe_cmp (pc_dnotin (Nat.lt_of_le_of_lt (by omega) hu) ha hb) hm)) fun σ H Q ⟨P, S, T, ρ, d, w, h, q⟩ => by
    obtain ⟨da, db, ea, eb, h⟩ := m2_split h
    obtain ⟨k, h2, rfl⟩ := ninD_split h
    exact tIn_run (neg := true) w ea eb h2 fun H' P' g => q _ H' P' fz g ⟨rfl, rfl⟩ (fun _ => Nat.zero_le _) fun a z => by simp [fz] at z
theorem t_in (hu : X.A.units + 64 < cLine) (ha : PE X a (tR ⟨X.K, cl⟩ E ma)) (hb : PE X b (tR ⟨X.K, cl⟩ E mb)) (hm : behindInMarks .In b = false := by rfl) : PT X (.Compare a [.In] [b] pos) (tT ⟨X.K, cl⟩ E (bM (m2 inD ma mb))) :=
  PT_imp (PT_or (pt_cmpR opr_inS ha hb hm) (pt_cmp (pc_din (Nat.lt_of_le_of_lt (by omega) hu) ha hb) hm)) fun σ H Q ⟨P, S, T, ρ, d, w, h, q⟩ => by
    obtain ⟨da, db, ea, eb, h⟩ := m2_split (bM_some h)
    obtain ⟨k, h2, e⟩ := inD_split h
    cases e
    exact tIn_run (neg := false) (Q := fun x H' => ∃ k, x = .bl k ∧ Q k H') w ea eb h2 fun H' P' g => ⟨_, rfl, q H' P' g⟩
theorem t_nin (hu : X.A.units + 64 < cLine) (ha : PE X a (tR ⟨X.K, cl⟩ E ma)) (hb : PE X b (tR ⟨X.K, cl⟩ E mb)) (hm : behindInMarks .NotIn b = false := by rfl) : PT X (.Compare a [.NotIn] [b] pos) (tT ⟨X.K, cl⟩ E (bM (m2 ninD ma mb))) :=
  PT_imp (PT_or (pt_cmpR opr_ninS ha hb hm) (pt_cmp (pc_dnotin (Nat.lt_of_le_of_lt (by omega) hu) ha hb) hm)) fun σ H Q ⟨P, S, T, ρ, d, w, h, q⟩ => by
    obtain ⟨da, db, ea, eb, h⟩ := m2_split (bM_some h)
    obtain ⟨k, h2, e⟩ := ninD_split h
    cases e
    exact tIn_run (neg := true) (Q := fun x H' => ∃ k, x = .bl k ∧ Q k H') w ea eb h2 fun H' P' g => ⟨_, rfl, q H' P' g⟩
end
end LI
namespace LI
open PySem L2

section
variable {X : Cx} {cl : Nat → Addr} {E : En} {e a b : Expr} {pos : Pos} {m ma mb : RM}
/-! ### tests -/
def truD : D → Option Bool
  | .non => some false
  | .bl b => some b
  | .int i => some (i != 0)
  | .str s => if s.length ≤ LIM then some (!s.isEmpty) else none
  | .tup ds => some (!ds.isEmpty)
  | .lst _ ds => some (!ds.isEmpty)
  | .scr ns => some (!ns.isEmpty)
  | _ => none
def truM (m : RM) : BM := fun ρ => (m ρ).bind truD
theorem emp_eq {α β : Type} {xs : List α} {ys : List β} (h : xs.length = ys.length) : xs.isEmpty = ys.isEmpty := by
  cases xs <;> cases ys <;> first | rfl | (simp at h)
theorem truD_v {c : LC} {P H : Hp} (e : Ex P H) : ∀ {d : D} {v : V} {U : FP} {k : Bool}, truD d = some k → Rep c P H d v U → TruV c.K v H k
  | .non, v, U, k, h, r => by cases h; rw [r.1]; rfl
  | .bl b, v, U, k, h, r => by cases h; rw [r.1]; rfl
  | .int b, v, U, k, h, r => by cases h; rw [r.1]; rfl
  | .str s, v, U, k, h, r => by
    replace h : (if s.length ≤ LIM then some (!s.isEmpty) else none) = some k := h
    by_cases hl : s.length ≤ LIM
    · rw [if_pos hl] at h
      cases h
      rw [r.1]
      refine ⟨by rw [str_len]; exact lim_le hl, ?_⟩
      rw [str_len]
      cases s with
      | nil => rfl
      | cons x s =>
        have : ((x :: s).length : Int) ≠ 0 := by rw [List.length_cons]; omega
        simp [bne, this]
        omega
    · rw [if_neg hl] at h; cases h
  | .tup ds, v, U, k, h, ⟨a, xs, e1, hp, rl⟩ => by cases h; rw [e1]; exact .inr (.inl ⟨xs, .inl (.inl (e _ _ hp)), by rw [emp_eq rl.length]⟩)
  | .lst o ds, v, U, k, h, r => by
    cases h
    obtain ⟨p, xs, T, e1, hh, rl, _⟩ := lst_heap e r
    rw [e1]
    exact .inl ⟨xs, .inl (.inl hh), by rw [emp_eq rl.length]⟩
  | .scr ns, v, U, k, h, ⟨a, e1, hp, _⟩ => by cases h; rw [e1]; exact .inl ⟨_, sql_mono e hp, by rw [emp_eq (List.length_map (f := V.int))]⟩
  | .gone, _, _, _, h, _ => by cases h
  | .kst _, _, _, _, h, _ => by cases h
  | .dK .., _, _, _, h, _ => by cases h
  | .dT .., _, _, _, h, _ => by cases h
  | .obj .., _, _, _, h, _ => by cases h
theorem t_val (ha : PE X a (tR ⟨X.K, cl⟩ E m)) (he : ∀ whole, isTrue a X.env whole = (do let v ← whole; standAt a.pos; holding [v] (truthy v)) := by intro _; rfl) : PT X a (tT ⟨X.K, cl⟩ E (truM m)) :=
  PT_imp (pt_truth ha he) fun σ H Q ⟨P, S, T, ρ, b, w, hm, q⟩ => by
    unfold truM at hm
    cases ea : m ρ with
    | none => rw [ea] at hm; cases hm
    | some d =>
      rw [ea] at hm
      exact ⟨P, S, T, ρ, d, w, ea, fun v H' P' U g r => ⟨b, truD_v g.ph hm r, q H' P' g⟩⟩
def notB (m : BM) : BM := fun ρ => (m ρ).map not
def andB (ma mb : BM) : BM := fun ρ => (ma ρ).bind fun k => if k = true then mb ρ else some false
def orB (ma mb : BM) : BM := fun ρ => (ma ρ).bind fun k => if k = true then some true else mb ρ
theorem t_not {m : BM} (h : PT X a (tT ⟨X.K, cl⟩ E m)) : PT X (.UnaryOp .Not a pos) (tT ⟨X.K, cl⟩ E (notB m)) := PT_imp (pt_not h) fun σ H Q ⟨P, S, T, ρ, b, w, hm, q⟩ => by
  unfold notB at hm
  cases ea : m ρ with
  | none => rw [ea] at hm; cases hm
  | some k =>
    rw [ea] at hm
    cases hm
    exact ⟨P, S, T, ρ, k, w, ea, q⟩
theorem w_and1 {m : BM} (h : PT X a (tT ⟨X.K, cl⟩ E m)) : PW X (.BoolOp .And [a] pos) (tT ⟨X.K, cl⟩ E m) := pw_and1 h
theorem w_or1 {m : BM} (h : PT X a (tT ⟨X.K, cl⟩ E m)) : PW X (.BoolOp .Or [a] pos) (tT ⟨X.K, cl⟩ E m) := pw_or1 h
theorem w_and {ma mb : BM} {rest : List Expr} (h : PT X a (tT ⟨X.K, cl⟩ E ma)) (k : PW X (.BoolOp .And (b :: rest) pos) (tT ⟨X.K, cl⟩ E mb)) : PW X (.BoolOp .And (a :: b :: rest) pos) (tT ⟨X.K, cl⟩ E (andB ma mb)) :=
  PW_imp (pw_and h k) fun σ H Q ⟨P, S, T, ρ, d, w, hm, q⟩ => by
    unfold andB at hm
    cases ea : ma ρ with
    | none => rw [ea] at hm; cases hm
    | some x =>
      rw [ea] at hm
      refine ⟨P, S, T, ρ, x, w, ea, fun H' P' g => ?_⟩
      cases x with
      | true => exact iteT ⟨P', S, T, ρ, d, w.grow g, hm, fun H2 P2 g2 => q H2 P2 (g.trans g2)⟩
      | false => cases hm; exact iteF (q H' P' g)
theorem w_or {ma mb : BM} {rest : List Expr} (h : PT X a (tT ⟨X.K, cl⟩ E ma)) (k : PW X (.BoolOp .Or (b :: rest) pos) (tT ⟨X.K, cl⟩ E mb)) : PW X (.BoolOp .Or (a :: b :: rest) pos) (tT ⟨X.K, cl⟩ E (orB ma mb)) :=
  PW_imp (pw_or h k) fun σ H Q ⟨P, S, T, ρ, d, w, hm, q⟩ => by
    unfold orB at hm
    cases ea : ma ρ with
    | none => rw [ea] at hm; cases hm
    | some x =>
      rw [ea] at hm
      refine ⟨P, S, T, ρ, x, w, ea, fun H' P' g => ?_⟩
      cases x with
      | true => cases hm; exact iteT (q H' P' g)
      | false => exact iteF ⟨P', S, T, ρ, d, w.grow g, hm, fun H2 P2 g2 => q H2 P2 (g.trans g2)⟩
theorem t_w {m : BM} (h : PW X a (tT ⟨X.K, cl⟩ E m)) : PT X a (tT ⟨X.K, cl⟩ E m) := h.pt

/-! ### and, or, not as values -/
def notD (m : RM) : RM := fun ρ => ((m ρ).bind truD).map fun k => .bl (!k)
def andM (ma mb : RM) : RM := fun ρ => (bM ma ρ).bind fun k => if k = true then mb ρ else some (.bl false)
def orM (ma mb : RM) : RM := fun ρ => (bM ma ρ).bind fun k => if k = true then some (.bl true) else mb ρ
theorem f_not (ha : PE X a (tR ⟨X.K, cl⟩ E m)) : PE X (.UnaryOp .Not a pos) (tF ⟨X.K, cl⟩ E (notD m)) := PE_imp (pe_notT ha) fun σ H Q ⟨P, S, T, ρ, d, w, hm, q⟩ => by
  unfold notD at hm
  cases ea : m ρ with
  | none => rw [ea] at hm; cases hm
  | some da =>
    rw [ea] at hm
    cases et : truD da with
    | none => rw [Option.bind_some, et] at hm; cases hm
    | some k =>
      rw [Option.bind_some, et] at hm
      cases hm
      exact ⟨P, S, T, ρ, da, w, ea, fun v H' P' U g r => ⟨k, truD_v g.ph et r, (q.grow g).flat g.ph ⟨rfl, rfl⟩⟩⟩
theorem f_one {op} {m : RM} (h : PE X a (tF ⟨X.K, cl⟩ E m)) : PE X (.BoolOp op [a] pos) (tF ⟨X.K, cl⟩ E m) := pe_one h
theorem f_and {rest : List Expr} (ha : PE X a (tR ⟨X.K, cl⟩ E ma)) (hb : PE X (.BoolOp .And (b :: rest) pos) (tF ⟨X.K, cl⟩ E mb)) : PE X (.BoolOp .And (a :: b :: rest) pos) (tF ⟨X.K, cl⟩ E (andM ma mb)) := PE_imp (pe_and ha hb) fun σ H Q ⟨P, S, T, ρ, d, w, hm, q⟩ => by
  unfold andM at hm
  cases ea : bM ma ρ with
  | none => rw [ea] at hm; cases hm
  | some k =>
    rw [ea] at hm
    refine ⟨P, S, T, ρ, .bl k, w, bM_some ea, fun v H' P' U g r => ⟨k, r.1, ?_⟩⟩
    cases k with
    | true => exact iteT ⟨P', S, T, ρ, d, w.grow g, hm, q.grow g⟩
    | false => cases hm; exact iteF ((q.grow g).flat g.ph ⟨rfl, rfl⟩)
theorem f_or {rest : List Expr} (ha : PE X a (tR ⟨X.K, cl⟩ E ma)) (hb : PE X (.BoolOp .Or (b :: rest) pos) (tF ⟨X.K, cl⟩ E mb)) : PE X (.BoolOp .Or (a :: b :: rest) pos) (tF ⟨X.K, cl⟩ E (orM ma mb)) := PE_imp (pe_or ha hb) fun σ H Q ⟨P, S, T, ρ, d, w, hm, q⟩ => by
  unfold orM at hm
  cases ea : bM ma ρ with
  | none => rw [ea] at hm; cases hm
  | some k =>
    rw [ea] at hm
    refine ⟨P, S, T, ρ, .bl k, w, bM_some ea, fun v H' P' U g r => ⟨k, r.1, ?_⟩⟩
    cases k with
    | false => exact iteF ⟨P', S, T, ρ, d, w.grow g, hm, q.grow g⟩
    | true => cases hm; exact iteT ((q.grow g).flat g.ph ⟨rfl, rfl⟩)
def iteM (mc : BM) (ma mb : RM) : RM := fun ρ => (mc ρ).bind fun k => if k = true then ma ρ else mb ρ
theorem f_ite {c0 : Expr} {mc : BM} (hc : PT X c0 (tT ⟨X.K, cl⟩ E mc)) (ha : PE X a (tF ⟨X.K, cl⟩ E ma)) (hb : PE X b (tF ⟨X.K, cl⟩ E mb)) : PE X (.IfExp c0 a b pos) (tF ⟨X.K, cl⟩ E (iteM mc ma mb)) := PE_imp (pe_ifExp hc ha hb) fun σ H Q ⟨P, S, T, ρ, d, w, hm, q⟩ => by
  unfold iteM at hm
  cases ea : mc ρ with
  | none => rw [ea] at hm; cases hm
  | some k =>
    rw [ea] at hm
    refine ⟨P, S, T, ρ, k, w, ea, fun H' P' g => ?_⟩
    cases k with
    | true => exact iteT ⟨P', S, T, ρ, d, w.grow g, hm, q.grow g⟩
    | false => exact iteF ⟨P', S, T, ρ, d, w.grow g, hm, q.grow g⟩
/-- a op b op' c -/
def chM (f g : D → D → Option D) (ma mb mc : RM) : RM := fun ρ => (ma ρ).bind fun x => (mb ρ).bind fun y => (f x y).bind fun z => match z with | .bl true => (mc ρ).bind fun u => g y u | .bl false => some (.bl false) | _ => none
theorem ch_run {r r' : R2} {f g : D → D → Option D} {mc : RM} (hf : Op2 ⟨X.K, cl⟩ r f) (hg : Op2 ⟨X.K, cl⟩ r' g) {σ : St} {H : Hp} {Q : VK} (h : tF ⟨X.K, cl⟩ E (chM f g ma mb mc) σ H Q) : tChain r r' (tR ⟨X.K, cl⟩ E ma) (tR ⟨X.K, cl⟩ E mb) (tR ⟨X.K, cl⟩ E mc) σ H Q := by
  obtain ⟨P, S, T, ρ, d, w, hm, q⟩ := h
  unfold chM at hm
  cases ea : ma ρ with
  | none => rw [ea] at hm; cases hm
  | some da =>
    cases eb : mb ρ with
    | none => rw [ea, eb] at hm; cases hm
    | some db =>
      rw [ea, eb] at hm
      simp only [Option.bind_some] at hm
      cases ez : f da db with
      | none => rw [ez] at hm; cases hm
      | some z =>
        rw [ez, Option.bind_some] at hm
        refine ⟨P, S, T, ρ, da, w, ea, fun x H1 P1 U1 g1 r1 => ⟨P1, S, T, ρ, db, w.grow g1, eb, fun y H2 P2 U2 g2 r2 => ?_⟩⟩
        refine hf P2 H2 g2.ph _ _ _ _ _ _ _ ez (r1.gr g2) r2 _ fun v H3 P3 U3 g3 r3 _ _ => ?_
        split at hm
        · cases ec : mc ρ with
          | none => rw [ec] at hm; cases hm
          | some dc =>
            rw [ec] at hm
            refine ⟨true, r3.1, iteT ⟨P3, S, T, ρ, dc, ((w.grow g1).grow g2).grow g3, ec, fun u H4 P4 U4 g4 r4 => ?_⟩⟩
            exact hg P4 H4 g4.ph _ _ _ _ _ _ _ hm ((r2.gr g3).gr g4) r4 Q (q.grow (((g1.trans g2).trans g3).trans g4))
        · cases hm
          exact ⟨false, r3.1, iteF ((q.grow ((g1.trans g2).trans g3)).flat g3.ph ⟨rfl, rfl⟩)⟩
        · cases hm
theorem f_ch {r r' : R2} {f g : D → D → Option D} {mc : RM} {op op' : CmpOp} {c0 : Expr} (ho : OpR X (compareOp op) r) (hf : Op2 ⟨X.K, cl⟩ r f) (ho' : OpR X (compareOp op') r') (hg : Op2 ⟨X.K, cl⟩ r' g)
    (ha : PE X a (tR ⟨X.K, cl⟩ E ma)) (hb : PE X b (tR ⟨X.K, cl⟩ E mb)) (hc : PE X c0 (tR ⟨X.K, cl⟩ E mc)) (hm : lastMarks [op, op'] [b, c0] = false := by with_unfolding_all rfl) : PE X (.Compare a [op, op'] [b, c0] pos) (tF ⟨X.K, cl⟩ E (chM f g ma mb mc)) :=
  PE_imp (pe_chain ho ho' ha hb hc hm) fun _ _ _ h => ch_run hf hg h
theorem t_ch {r r' : R2} {f g : D → D → Option D} {mc : RM} {op op' : CmpOp} {c0 : Expr} (ho : OpR X (compareOp op) r) (hf : Op2 ⟨X.K, cl⟩ r f) (ho' : OpR X (compareOp op') r') (hg : Op2 ⟨X.K, cl⟩ r' g)
    (ha : PE X a (tR ⟨X.K, cl⟩ E ma)) (hb : PE X b (tR ⟨X.K, cl⟩ E mb)) (hc : PE X c0 (tR ⟨X.K, cl⟩ E mc)) (hm : lastMarks [op, op'] [b, c0] = false := by with_unfolding_all rfl) : PT X (.Compare a [op, op'] [b, c0] pos) (tT ⟨X.K, cl⟩ E (bM (chM f g ma mb mc))) :=
  t_test (pt_chain ho ho' ha hb hc hm) fun _ _ _ h => ch_run hf hg h

/-! ### built-ins by name -/
def mA (f : List D → Option D) (ms : AM) : RM := fun ρ => (ms ρ).bind f
def OpA (c : LC) (r : List V → Hp → VK → Prop) (f : List D → Option D) : Prop := ∀ (P H : Hp), Ex P H → ∀ ds d vs U, f ds = some d → RepL c P H ds vs U → ∀ Q, FQ c P H d Q → r vs H Q
theorem opA_run {r : List V → Hp → VK → Prop} {f : List D → Option D} {ms : AM} (hf : OpA ⟨X.K, cl⟩ r f) {σ : St} {H : Hp} {Q : VK} (h : tF ⟨X.K, cl⟩ E (mA f ms) σ H Q) : tCB r (tAR ⟨X.K, cl⟩ E ms) σ H Q := by
  obtain ⟨P, S, T, ρ, d, w, hm, q⟩ := h
  unfold mA at hm
  cases ea : ms ρ with
  | none => rw [ea] at hm; cases hm
  | some ds =>
    rw [ea] at hm
    exact ⟨P, S, T, ρ, ds, w, ea, fun vs H1 P1 U1 g1 r1 => hf P1 H1 g1.ph ds d vs U1 hm r1 Q (q.grow g1)⟩
theorem f_blt {r : List V → Hp → VK → Prop} {f : List D → Option D} {ms : AM} {id : String} {x : Str} {es : List Expr} {p : Pos} (hc : CallR X (.builtin id) r) (hf : OpA ⟨X.K, cl⟩ r f) (hg : Gl X x) (hm : X.mg x = none) (hv : bootBuiltins x = some (.builtin id)) (ha : PA X (e :: es) (tAR ⟨X.K, cl⟩ E ms)) (hn : x ≠ "__name__" := by decide) (hdb : (x == ("__debug__" : Str)) = false := by decide)
    (he : starEach (e :: es) X.env = (false, eval e X.env) :: starEach es X.env := by rfl) (hpl : (backTo pos (starEach es X.env)).any (·.1) = false := by rfl) : PE X (.Call (.Name x p) (e :: es) [] pos) (tF ⟨X.K, cl⟩ E (mA f ms)) :=
  PE_imp (pe_callB hc hg hm hv ha hn hdb he hpl) fun _ _ _ h => opA_run hf h
theorem f_bty {r : List V → Hp → VK → Prop} {f : List D → Option D} {ms : AM} {id : String} {x : Str} {es : List Expr} {p : Pos} (hc : CallR X (.type id) r) (hf : OpA ⟨X.K, cl⟩ r f) (hg : Gl X x) (hm : X.mg x = none) (hv : bootBuiltins x = some (.type id)) (ha : PA X (e :: es) (tAR ⟨X.K, cl⟩ E ms)) (hn : x ≠ "__name__" := by decide) (hdb : (x == ("__debug__" : Str)) = false := by decide)
    (he : starEach (e :: es) X.env = (false, eval e X.env) :: starEach es X.env := by rfl) (hpl : (backTo pos (starEach es X.env)).any (·.1) = false := by rfl) : PE X (.Call (.Name x p) (e :: es) [] pos) (tF ⟨X.K, cl⟩ E (mA f ms)) :=
  PE_imp (pe_callTy hc hg hm hv ha hn hdb he hpl) fun _ _ _ h => opA_run hf h
theorem repL1 {c : LC} {P H : Hp} {d : D} {vs : List V} {U : FP} (r : RepL c P H [d] vs U) : ∃ v T, vs = [v] ∧ Rep c P H d v T := by
  obtain ⟨y, ys, T, T2, e, r1, r2, _⟩ := r
  rw [r2.1] at e
  exact ⟨y, T, e, r1⟩
theorem repL2 {c : LC} {P H : Hp} {d d2 : D} {vs : List V} {U : FP} (r : RepL c P H [d, d2] vs U) : ∃ v v2 T T2, vs = [v, v2] ∧ Rep c P H d v T ∧ Rep c P H d2 v2 T2 := by
  obtain ⟨y, ys, T, T2, e, r1, r2, _⟩ := r
  obtain ⟨v2, T3, e2, r3⟩ := repL1 r2
  rw [e2] at e
  exact ⟨y, v2, T, T3, e, r1, r3⟩
/-- len -/
def lenD : List D → Option D
  | [.str s] => if s.length ≤ LIM then some (.int s.length) else none
  | [.tup ds] => some (.int ds.length)
  | [.lst _ ds] => some (.int ds.length)
  | [.scr ns] => some (.int ns.length)
  | [.dK _ ks _] => some (.int ks.length)
  | _ => none
def rLenA (K : PySem.W.Frag) : List V → Hp → VK → Prop := fun xs H Q => (∃ x n, xs = [x] ∧ LenV K x H n ∧ Q (.int n) H) ∨ (∃ a kvs, xs = [V.ref a] ∧ H a = some (.dK kvs) ∧ Q (.int kvs.length) H)
theorem cr_len : CallR X (.builtin "len") (rLenA X.K) := call_len.or call_lenD
theorem op_lenD {c : LC} : OpA c (rLenA c.K) lenD := by
  intro P H e ds d vs U hf r Q q
  unfold lenD at hf
  split at hf
  · split at hf
    · rename_i s hl
      cases hf
      obtain ⟨v, T, rfl, r1⟩ := repL1 r
      exact .inl ⟨_, _, rfl, by rw [r1.1]; exact ⟨by rw [str_len]; exact lim_le hl, by rw [str_len]⟩, q.flat e ⟨rfl, rfl⟩⟩
    · cases hf
  · cases hf
    obtain ⟨v, T, rfl, a, xs, rfl, h, rl⟩ := repL1 r
    exact .inl ⟨_, _, rfl, .inr ⟨xs, .inl (.inl (e _ _ h)), rfl⟩, by rw [← rl.length]; exact q.flat e ⟨rfl, rfl⟩⟩
  · cases hf
    obtain ⟨v, T, rfl, r1⟩ := repL1 r
    obtain ⟨a, xs, T', rfl, h, rl, _⟩ := lst_heap e r1
    exact .inl ⟨_, _, rfl, .inl ⟨xs, .inl (.inl h), rfl⟩, by rw [← rl.length]; exact q.flat e ⟨rfl, rfl⟩⟩
  · cases hf
    obtain ⟨v, T, rfl, a, rfl, h, _⟩ := repL1 r
    exact .inl ⟨_, _, rfl, .inl ⟨_, sql_mono e h, rfl⟩, by rw [List.length_map]; exact q.flat e ⟨rfl, rfl⟩⟩
  · rename_i o ks ds'
    cases hf
    obtain ⟨v, T, rfl, r1⟩ := repL1 r
    right
    have : ∃ a xs, v = .ref a ∧ H a = some (.dK (ks.zip xs)) ∧ ks.length = xs.length := by
      cases o with
      | true => obtain ⟨a, xs, T, e1, h, n, _⟩ := r1; exact ⟨a, xs, e1, h, n⟩
      | false => obtain ⟨a, xs, e1, h, n, _⟩ := r1; exact ⟨a, xs, e1, e _ _ h, n⟩
    obtain ⟨a, xs, rfl, h, n⟩ := this
    refine ⟨a, _, rfl, h, ?_⟩
    rw [List.length_zip, ← n, Nat.min_self]
    exact q.flat e ⟨rfl, rfl⟩
  · cases hf
/-- max, min of two ints -/
def max2D : List D → Option D
  | [.int i, .int j] => some (.int (if j > i then j else i))
  | _ => none
def min2D : List D → Option D
  | [.int i, .int j] => some (.int (if j < i then j else i))
  | _ => none
theorem op_max2D {c : LC} : OpA c (fun xs H Q => ∃ i j, xs = [.int i, .int j] ∧ Q (.int (if j > i then j else i)) H) max2D := by
  intro P H e ds d vs U hf r Q q
  unfold max2D at hf
  split at hf
  · cases hf
    obtain ⟨v, v2, T, T2, rfl, r1, r2⟩ := repL2 r
    exact ⟨_, _, by rw [r1.1, r2.1], q.flat e ⟨rfl, rfl⟩⟩
  · cases hf
theorem op_min2D {c : LC} : OpA c (fun xs H Q => ∃ i j, xs = [.int i, .int j] ∧ Q (.int (if j < i then j else i)) H) min2D := by
  intro P H e ds d vs U hf r Q q
  unfold min2D at hf
  split at hf
  · cases hf
    obtain ⟨v, v2, T, T2, rfl, r1, r2⟩ := repL2 r
    exact ⟨_, _, by rw [r1.1, r2.1], q.flat e ⟨rfl, rfl⟩⟩
  · cases hf
/-- int of an int, of a truth -/
def intD : List D → Option D
  | [.int i] => some (.int i)
  | [.bl k] => some (.int (if k then 1 else 0))
  | _ => none
theorem op_intD {c : LC} : OpA c (fun xs H Q => (∃ i, xs = [.int i] ∧ Q (.int i) H) ∨ ∃ k, xs = [.bl k] ∧ Q (.int (if k then 1 else 0)) H) intD := by
  intro P H e ds d vs U hf r Q q
  unfold intD at hf
  split at hf
  · cases hf
    obtain ⟨v, T, rfl, r1⟩ := repL1 r
    exact .inl ⟨_, by rw [r1.1], q.flat e ⟨rfl, rfl⟩⟩
  · cases hf
    obtain ⟨v, T, rfl, r1⟩ := repL1 r
    exact .inr ⟨_, by rw [r1.1], q.flat e ⟨rfl, rfl⟩⟩
  · cases hf
/-- the ints of a list -/
def intsD : List D → Option (List Int)
  | [] => some []
  | .int i :: ds => (intsD ds).map fun is => i :: is
  | _ :: _ => none
theorem ints_v {c : LC} {P H : Hp} : ∀ {ds : List D} {xs : List V} {U : FP} {is : List Int}, intsD ds = some is → RepL c P H ds xs U → xs = is.map .int
  | [], xs, U, is, h, r => by cases h; exact r.1
  | .int i :: ds, xs, U, is, h, ⟨y, ys, T, T2, e1, r, rs, _⟩ => by
    unfold intsD at h
    cases z : intsD ds with
    | none => rw [z] at h; cases h
    | some js => rw [z] at h; cases h; rw [e1, r.1, ints_v z rs]; rfl
  | .gone :: _, _, _, _, h, _ | .non :: _, _, _, _, h, _ | .bl _ :: _, _, _, _, h, _ | .str _ :: _, _, _, _, h, _ | .scr _ :: _, _, _, _, h, _ | .kst _ :: _, _, _, _, h, _ | .tup _ :: _, _, _, _, h, _ | .lst .. :: _, _, _, _, h, _ | .dK .. :: _, _, _, _, h, _ | .dT .. :: _, _, _, _, h, _ | .obj .. :: _, _, _, _, h, _ => by simp [intsD] at h
def sumD : List D → Option D
  | [.lst _ ds] => (intsD ds).map fun is => .int is.sum
  | _ => none
theorem op_sumD {c : LC} : OpA c (rSum c.K) sumD := by
  intro P H e ds d vs U hf r Q q
  unfold sumD at hf
  split at hf
  · rename_i o ds'
    obtain ⟨v, T, rfl, r1⟩ := repL1 r
    obtain ⟨a, xs, T', rfl, h, rl, _⟩ := lst_heap e r1
    cases z : intsD ds' with
    | none => rw [z] at hf; cases hf
    | some is =>
      rw [z] at hf; cases hf
      have := ints_v z rl
      subst this
      exact ⟨a, is, rfl, .inl (.inl h), q.flat e ⟨rfl, rfl⟩⟩
  · cases hf
/-- list(xs) -/
def listD : List D → Option D
  | [.lst _ ds] => if frzL ds = true then some (.lst true ds) else none
  | [.tup ds] => if frzL ds = true then some (.lst true ds) else none
  | [.scr ns] => some (.lst true (ns.map .int))
  | _ => none
theorem op_listD {c : LC} : OpA c (fun xs H Q => ∃ p ys, xs = [.ref p] ∧ (SqL c.K H p ys ∨ SqT c.K H p ys) ∧ ∀ l, H l = none → Q (.ref l) (upd H l (.lst ys))) listD := by
  intro P H e ds d vs U hf r Q q
  unfold listD at hf
  split at hf
  · split at hf
    · rename_i hl
      cases hf
      obtain ⟨v, T, rfl, r1⟩ := repL1 r
      obtain ⟨p, xs, rfl, hh, rl⟩ := lst_heap0 e r1 hl
      exact ⟨p, xs, rfl, .inl (.inl (.inl hh)), q.lst e rl⟩
    · cases hf
  · split at hf
    · rename_i hl
      cases hf
      obtain ⟨v, T, rfl, r1⟩ := repL1 r
      obtain ⟨p, xs, rfl, hh, _, rl⟩ := tup_heap0 e r1 hl
      exact ⟨p, xs, rfl, .inr hh, q.lst e rl⟩
    · cases hf
  · cases hf
    obtain ⟨v, T, rfl, p, rfl, hh, _⟩ := repL1 r
    exact ⟨p, _, rfl, .inl (sql_mono e hh), q.lst e (repL_ints _)⟩
  · cases hf
/-- isinstance(x, T), T built-in -/
def tyD : D → Option String
  | .non => some "NoneType"
  | .bl _ => some "bool"
  | .int _ => some "int"
  | .str _ => some "str"
  | .scr _ => some "list"
  | .lst .. => some "list"
  | .tup _ => some "tuple"
  | .dK .. => some "dict"
  | .dT .. => some "dict"
  | _ => none
theorem ty_v {c : LC} {P H : Hp} (e : Ex P H) : ∀ {d : D} {v : V} {U : FP} {t : String}, tyD d = some t → Rep c P H d v U → TyX c.K H v (.type t)
  | .non, v, U, t, h, r => by cases h; rw [r.1]; exact .base .non
  | .bl b, v, U, t, h, r => by cases h; rw [r.1]; exact .base (.bl b)
  | .int b, v, U, t, h, r => by cases h; rw [r.1]; exact .base (.int b)
  | .str b, v, U, t, h, r => by cases h; rw [r.1]; exact .base (.str _)
  | .scr ns, v, U, t, h, ⟨a, e1, q, _⟩ => by
    cases h; rw [e1]
    rcases q with (q | ⟨o, q⟩) | ⟨o, its, n, q, q2, _⟩
    · exact .base (.lst (e _ _ q))
    · exact .base (.frz (e _ _ q))
    · exact .kList q q2
  | .tup ds, v, U, t, h, ⟨a, xs, e1, q, _⟩ => by cases h; rw [e1]; exact .base (.tup (e _ _ q))
  | .lst o ds, v, U, t, h, r => by
    cases h
    obtain ⟨a, xs, T, e1, hh, _⟩ := lst_heap e r
    rw [e1]; exact .base (.lst hh)
  | .dK true _ _, v, U, t, h, ⟨a, _, _, e1, q, _⟩ => by cases h; rw [e1]; exact .base (.dK q)
  | .dK false _ _, v, U, t, h, ⟨a, _, e1, q, _⟩ => by cases h; rw [e1]; exact .base (.dK (e _ _ q))
  | .dT true _ _, v, U, t, h, ⟨a, _, _, e1, q, _⟩ => by cases h; rw [e1]; exact .base (.dT q)
  | .dT false _ _, v, U, t, h, ⟨a, _, e1, q, _⟩ => by cases h; rw [e1]; exact .base (.dT (e _ _ q))
def isiM (ty : String) (m : RM) : RM := fun ρ => (m ρ).bind fun d => (tyD d).bind fun t => (kitB t ty).map .bl
theorem f_isi {ty : String} {b0 : Expr} {x : Str} {p : Pos} (hg : Gl X x) (hm : X.mg x = none) (hv : bootBuiltins x = some (.builtin "isinstance")) (ha : PE X a (tR ⟨X.K, cl⟩ E ma)) (hb : PE X b0 (tC (.ty ty)))
    (hn : x ≠ "__name__" := by decide) (hdb : (x == ("__debug__" : Str)) = false := by decide)
    (hs1 : starEach [a, b0] X.env = (false, eval a X.env) :: starEach [b0] X.env := by rfl) (hs2 : starEach [b0] X.env = (false, eval b0 X.env) :: starEach [] X.env := by rfl) (hpl : (backTo pos (starEach [b0] X.env)).any (·.1) = false := by rfl) : PE X (.Call (.Name x p) [a, b0] [] pos) (tF ⟨X.K, cl⟩ E (isiM ty ma)) :=
  PE_imp (pe_callB call_isi hg hm hv (pa_cons ha (pa_cons hb pa_nil hs2) hs1) hn hdb hs1 hpl) fun σ H Q ⟨P, S, T, ρ, d, w, h, q⟩ => by
    unfold isiM at h
    cases ea : ma ρ with
    | none => rw [ea] at h; cases h
    | some da =>
      rw [ea, Option.bind_some] at h
      cases et : tyD da with
      | none => rw [et] at h; cases h
      | some t =>
        rw [et, Option.bind_some] at h
        cases ek : kitB t ty with
        | none => rw [ek] at h; cases h
        | some k =>
          rw [ek] at h
          cases h
          exact ⟨P, S, T, ρ, da, w, ea, fun v H1 P1 U1 g1 r1 => ⟨v, .ty ty, .type t, .type ty, k, rfl, .ty ty, ty_v g1.ph et r1, kit_ty ek, (q.grow g1).flat g1.ph ⟨rfl, rfl⟩⟩⟩
end
end LI
namespace LI
open PySem L2

/-! ### what is walked -/
def IterOK (c : LC) (P : Hp) (J : It) (ds : List D) : Prop := ∃ (G : Hp → Prop) (Y : Nat → Hp → V → Hp → Prop), Walk J ds.length G Y ∧ (∀ P2 H2, Ex P P2 → Ex P2 H2 → G H2) ∧
  ∀ i P2 H2 x H3, Ex P P2 → Ex P2 H2 → i < ds.length → Y i H2 x H3 → ∃ P3 d, Gr P2 H2 P3 H3 ∧ ds[i]? = some d ∧ Rep c P3 H3 d x fz
def tI (c : LC) (E : En) (m : AM) : TI := fun σ H R => ∃ P S T ρ ds, Wd c E P S T σ H ρ ∧ m ρ = some ds ∧ ∀ J H' P', Gr P H P' H' → IterOK c P' J ds → R J H'
theorem PI_imp {X : Cx} {tg e : Expr} {t t' : TI} (h : PI X tg e t) (k : ∀ σ H R, t' σ H R → t σ H R) : PI X tg e t' := ⟨fun pins s σ H R I q => h.run pins s σ H R I (k σ H R q)⟩
theorem PI_or {X : Cx} {tg e : Expr} {t u : TI} (h : PI X tg e t) (k : PI X tg e u) : PI X tg e (fun σ H Q => t σ H Q ∨ u σ H Q) := ⟨fun pins s σ H Q I q => q.elim (h.run pins s σ H Q I) (k.run pins s σ H Q I)⟩
def strsD (s : List Nat) : List D := s.map fun k => .str [k]
def itemsD : D → Option (List D)
  | .lst false ds => if frzL ds = true then some ds else none
  | .tup ds => if frzL ds = true then some ds else none
  | .scr ns => some (ns.map .int)
  | .str s => some (strsD s)
  | _ => none
def itM (m : RM) : AM := fun ρ => (m ρ).bind itemsD
theorem rep_get0 {c : LC} {P H : Hp} {ds : List D} {xs : List V} {i : Nat} {x : V} (r : RepL c P H ds xs fz) (h : xs[i]? = some x) : ∃ d, ds[i]? = some d ∧ Rep c P H d x fz := by
  have hi : i < ds.length := by rw [r.length]; exact (List.getElem?_eq_some_iff.mp h).1
  obtain ⟨y, T, h1, h2, h3⟩ := r.get (List.getElem?_eq_getElem hi)
  rw [h1] at h
  cases h
  have : T = fz := by funext a; have := h3 a; simp only [fz] at this ⊢; omega
  subst this
  exact ⟨_, List.getElem?_eq_getElem hi, h2⟩
theorem iter_lst {c : LC} {P : Hp} {a : Addr} {xs : List V} {ds : List D} {H : Hp} (h : SqL c.K P a xs) (r : RepL c P H ds xs fz) (hp : ∀ H', RepL c P H' ds xs fz) : IterOK c P (Itl c.K a) ds := by
  refine ⟨_, _, by rw [r.length]; exact walk_list (xs := xs), fun P2 H2 e1 e2 => sql_mono e2 (sql_mono e1 h), fun i P2 H2 x H3 e1 e2 hi y => ?_⟩
  obtain ⟨rfl, hx⟩ := y
  obtain ⟨d, h1, h2⟩ := rep_get0 (hp H3) hx
  exact ⟨P2, d, .refl e2, h1, Rep.mono e1 d x fz (fun a o z _ => by simp [fz] at z) h2⟩
theorem iter_tup {c : LC} {P : Hp} {a : Addr} {xs : List V} {ds : List D} {H : Hp} (h : SqT c.K P a xs) (r : RepL c P H ds xs fz) (hp : ∀ H', RepL c P H' ds xs fz) : IterOK c P (Itt c.K a) ds := by
  refine ⟨_, _, by rw [r.length]; exact walk_tup (xs := xs), fun P2 H2 e1 e2 => sqt_mono e2 (sqt_mono e1 h), fun i P2 H2 x H3 e1 e2 hi y => ?_⟩
  obtain ⟨rfl, hx⟩ := y
  obtain ⟨d, h1, h2⟩ := rep_get0 (hp H3) hx
  exact ⟨P2, d, .refl e2, h1, Rep.mono e1 d x fz (fun a o z _ => by simp [fz] at z) h2⟩
theorem repL_h {c : LC} {P H H' : Hp} {ds : List D} {xs : List V} (r : RepL c P H ds xs fz) : RepL c P H' ds xs fz := RepL.mono (.refl _) ds xs fz (fun a o z _ => by simp [fz] at z) r
section
variable {X : Cx} {cl : Nat → Addr} {E : En} {e a b tg : Expr} {pos : Pos} {m ma mb : RM}
theorem i_seq (h : PE X e (tR ⟨X.K, cl⟩ E m)) : PI X tg e (tI ⟨X.K, cl⟩ E (itM m)) := by
  refine PI_imp (PI_or (pi_list h) (PI_or (pi_tup h) (pi_str h))) fun σ H R ⟨P, S, T, ρ, ds, w, hm, q⟩ => ?_
  unfold itM at hm
  cases ea : m ρ with
  | none => rw [ea] at hm; cases hm
  | some d =>
    rw [ea] at hm
    replace hm : itemsD d = some ds := hm
    unfold itemsD at hm
    split at hm
    · split at hm
      · rename_i hf
        cases hm
        refine .inl ⟨P, S, T, ρ, _, w, ea, fun v H1 P1 U1 g1 r1 => ?_⟩
        obtain ⟨p, xs, e1, hp, rl⟩ := r1
        have z := RepL.frz0 _ xs _ hf rl
        subst z
        exact ⟨p, e1, ⟨xs, .inl (.inl (g1.ph _ _ hp))⟩, q _ H1 P1 g1 (iter_lst (.inl (.inl hp)) rl fun _ => repL_h rl)⟩
      · cases hm
    · split at hm
      · rename_i hf
        cases hm
        refine .inr (.inl ⟨P, S, T, ρ, _, w, ea, fun v H1 P1 U1 g1 r1 => ?_⟩)
        obtain ⟨p, xs, e1, hp, rl⟩ := r1
        have z := RepL.frz0 _ xs _ hf rl
        subst z
        exact ⟨p, e1, ⟨xs, .inl (.inl (g1.ph _ _ hp))⟩, q _ H1 P1 g1 (iter_tup (.inl (.inl hp)) rl fun _ => repL_h rl)⟩
      · cases hm
    · cases hm
      refine .inl ⟨P, S, T, ρ, _, w, ea, fun v H1 P1 U1 g1 r1 => ?_⟩
      obtain ⟨p, e1, hp, _⟩ := r1
      exact ⟨p, e1, ⟨_, sql_mono g1.ph hp⟩, q _ H1 P1 g1 (iter_lst (H := H1) hp (repL_ints _) fun _ => repL_ints _)⟩
    · rename_i s
      cases hm
      refine .inr (.inr ⟨P, S, T, ρ, _, w, ea, fun v H1 P1 U1 g1 r1 => ⟨_, r1.1, q _ H1 P1 g1 ?_⟩⟩)
      refine ⟨_, _, by rw [show (strsD s).length = (⟨s.toArray⟩ : Str).cps.size by simp [strsD]]; exact walk_str, fun _ _ _ _ => True.intro, fun i P2 H2 x H3 e1 e2 hi y => ?_⟩
      obtain ⟨rfl, k, hk, rfl⟩ := y
      refine ⟨P2, .str [k], .refl e2, ?_, ⟨rfl, rfl⟩⟩
      have hk' : s[i]? = some k := by simpa using hk
      simp [strsD, hk']
    · cases hm
/-- the ints from lo on -/
def upD (lo : Int) (n : Nat) : List D := (List.range n).map fun (k : Nat) => D.int (lo + (k : Int))
def rng1M (m : RM) : AM := fun ρ => (m ρ).bind fun d => match d with | .int j => if -(2 ^ 62) ≤ j ∧ j < 2 ^ 62 then some (upD 0 j.toNat) else none | _ => none
def rng2M (ma mb : RM) : AM := fun ρ => (ma ρ).bind fun x => (mb ρ).bind fun y => match x, y with | .int i, .int j => if -(2 ^ 62) ≤ i ∧ i < 2 ^ 62 ∧ -(2 ^ 62) ≤ j ∧ j < 2 ^ 62 then some (upD i (j - i).toNat) else none | _, _ => none
theorem iter_rng {c : LC} {P : Hp} (lo : Int) (n : Nat) : IterOK c P (Itr lo n) (upD lo n) := by
  refine ⟨_, _, by rw [show (upD lo n).length = n by simp [upD]]; exact walk_range, fun _ _ _ _ => True.intro, fun i P2 H2 x H3 e1 e2 hi y => ?_⟩
  obtain ⟨rfl, rfl⟩ := y
  have hi' : i < n := by simpa [upD] using hi
  refine ⟨P2, .int (lo + (i : Int)), .refl e2, ?_, ⟨rfl, rfl⟩⟩
  simp [upD, hi']
theorem i_rng1 {p : Pos} (hg : Gl X "range") (hm : X.mg "range" = none) (ha : PE X a (tR ⟨X.K, cl⟩ E m)) (hs : starEach [a] X.env = [(false, eval a X.env)] := by rfl) : PI X tg (.Call (.Name "range" p) [a] [] pos) (tI ⟨X.K, cl⟩ E (rng1M m)) :=
  PI_imp (pi_range1 hg hm (pa_cons ha pa_nil hs) hs) fun σ H R ⟨P, S, T, ρ, ds, w, h, q⟩ => by
    unfold rng1M at h
    cases ea : m ρ with
    | none => rw [ea] at h; cases h
    | some d =>
      rw [ea] at h
      cases d with
      | int j =>
        simp only [Option.bind_some] at h
        split at h
        · rename_i hb
          cases h
          exact ⟨P, S, T, ρ, _, w, ea, fun v H1 P1 U1 g1 r1 => ⟨j, by rw [r1.1], hb.1, hb.2, q _ H1 P1 g1 (iter_rng 0 _)⟩⟩
        · cases h
      | _ => cases h
theorem i_rng2 {p : Pos} (hg : Gl X "range") (hm : X.mg "range" = none) (ha : PE X a (tR ⟨X.K, cl⟩ E ma)) (hb : PE X b (tR ⟨X.K, cl⟩ E mb)) (hs : starEach [a, b] X.env = [(false, eval a X.env), (false, eval b X.env)] := by rfl) (hs2 : starEach [b] X.env = [(false, eval b X.env)] := by rfl) :
    PI X tg (.Call (.Name "range" p) [a, b] [] pos) (tI ⟨X.K, cl⟩ E (rng2M ma mb)) :=
  PI_imp (pi_range2 hg hm (pa_cons ha (pa_cons hb pa_nil hs2) (by rw [hs, hs2])) hs hs2) fun σ H R ⟨P, S, T, ρ, ds, w, h, q⟩ => by
    unfold rng2M at h
    cases ea : ma ρ with
    | none => rw [ea] at h; cases h
    | some d =>
      cases eb : mb ρ with
      | none => rw [ea, eb] at h; cases h
      | some d2 =>
        rw [ea, eb] at h
        cases d with
        | int i =>
          cases d2 with
          | int j =>
            simp only [Option.bind_some] at h
            split at h
            · rename_i hb
              cases h
              exact ⟨P, S, T, ρ, _, w, ea, fun v H1 P1 U1 g1 r1 => ⟨P1, S, T, ρ, _, w.grow g1, eb, fun v2 H2 P2 U2 g2 r2 => ⟨i, j, by rw [r1.1, r2.1], ⟨hb.1, hb.2.1, hb.2.2.1, hb.2.2.2⟩, q _ H2 P2 (g1.trans g2) (iter_rng i _)⟩⟩⟩
            · cases h
          | _ => cases h
        | _ => cases h

/-! ### targets -/
abbrev TgM := D → List D → Option (List D)
theorem fa_assoc (S T U : FP) : fa (fa S T) U = fa S (fa T U) := by funext a; simp only [fa]; omega
theorem fa_comm (S T : FP) : fa S T = fa T S := by funext a; simp only [fa]; omega
/-- what waits aside is stored | let go -/
theorem Wd.shrink {c : LC} {P H : Hp} {S S' T T' : FP} {σ σ' : St} {ρ ρ' : List D} (w : Wd c E P S T σ H ρ) (he : RepE c P H ρ' σ' S') (hl : ∀ a, S' a + T' a ≤ S a + T a) (ht : ∀ a, T' a ≤ T a) (hk : ∀ (i : Nat) (v : V), E.kp[i]? = some true → E.vs[i]? = some v → σ'[i]? = some (some v)) : Wd c E P S' T' σ' H ρ' :=
  ⟨he, fun a => Nat.le_trans (hl a) (w.le a), fun a h => w.out a (Nat.lt_of_lt_of_le h (hl a)), fun a h => w.th a (Nat.lt_of_lt_of_le h (ht a)), w.ph, w.p0, w.fr, w.np, fun a h => w.ns a (Nat.lt_of_lt_of_le h (hl a)), hk⟩
theorem Wd.drop {c : LC} {P H : Hp} {S T U : FP} {σ : St} {ρ : List D} (w : Wd c E P S (fa T U) σ H ρ) : Wd c E P S T σ H ρ := w.shrink w.env (fun a => by simp only [fa]; omega) (fun a => by simp only [fa]; omega) w.kp
theorem RepE.set {c : LC} {P H : Hp} {d : D} {v : V} {U : FP} (r : Rep c P H d v U) : ∀ {ρ : List D} {σ : St} {S : FP} (i : Nat), RepE c P H ρ σ S → ∃ S', RepE c P H (ρ.set i d) (σ.set i (some v)) S' ∧ ∀ a, S' a ≤ S a + U a
  | [], [], S, i, h => ⟨S, h, fun a => by omega⟩
  | d0 :: ρ, v0 :: σ, S, 0, ⟨T, T2, h1, h2, f⟩ => ⟨fa U T2, ⟨U, T2, r, h2, rfl⟩, fun a => by rw [f]; simp only [fa]; omega⟩
  | d0 :: ρ, v0 :: σ, S, i + 1, ⟨T, T2, h1, h2, f⟩ => by
    obtain ⟨S', k1, k2⟩ := RepE.set r i h2
    exact ⟨fa T S', ⟨T, S', h1, k1, rfl⟩, fun a => by have := k2 a; rw [f]; simp only [fa]; omega⟩
  | [], _ :: _, _, _, h => h.elim
  | _ :: _, [], _, _, h => h.elim
theorem Wd.store {c : LC} {P H : Hp} {S T U : FP} {σ : St} {ρ : List D} {d : D} {v : V} (w : Wd c E P S (fa T U) σ H ρ) (r : Rep c P H d v U) (i : Nat) (hk : E.kp[i]? ≠ some true) : ∃ S', Wd c E P S' T (σ.set i (some v)) H (ρ.set i d) := by
  obtain ⟨S', h1, h2⟩ := RepE.set r i w.env
  refine ⟨S', w.shrink h1 (fun a => by have := h2 a; simp only [fa]; omega) (fun a => by simp only [fa]; omega) fun j u h3 h4 => ?_⟩
  have : j ≠ i := fun z => hk (z ▸ h3)
  rw [List.getElem?_set_ne (Ne.symm this)]
  exact w.kp j u h3 h4
def tPG (c : LC) (E : En) (tl : List Nat) (f : TgM) : TG := fun v σ H Q => ∃ P S T U ρ d ρ', Wd c E P S (fa T U) σ H ρ ∧ Rep c P H d v U ∧ f d ρ = some ρ' ∧
  ∀ σ' S', Wd c E P S' T σ' H ρ' → σ'.length = σ.length → (∀ j, j ∉ tl → σ'[j]? = σ[j]?) → Q σ' H
def tPGs (c : LC) (E : En) (tl : List Nat) (f : List D → List D → Option (List D)) : TGs := fun vs σ H Q => ∃ P S T U ρ ds ρ', Wd c E P S (fa T U) σ H ρ ∧ RepL c P H ds vs U ∧ f ds ρ = some ρ' ∧
  ∀ σ' S', Wd c E P S' T σ' H ρ' → σ'.length = σ.length → (∀ j, j ∉ tl → σ'[j]? = σ[j]?) → Q σ' H
theorem PG_imp {t t' : TG} (h : PG X e t) (k : ∀ v σ H Q, t' v σ H Q → t v σ H Q) : PG X e t' := ⟨fun pins s σ H v u Q I r q => h.run pins s σ H v u Q I r (k v σ H Q q)⟩
theorem PGs_imp {es : List Expr} {t t' : TGs} (h : PGs X es t) (k : ∀ v σ H Q, t' v σ H Q → t v σ H Q) : PGs X es t' := ⟨fun pins s σ H v u Q I r q => h.run pins s σ H v u Q I r (k v σ H Q q)⟩
def nameT (i : Nat) : TgM := fun d ρ => some (ρ.set i d)
def tupT (f : List D → List D → Option (List D)) : TgM := fun d ρ => match d with | .tup ds => f ds ρ | _ => none
def nilT : List D → List D → Option (List D) := fun ds ρ => match ds with | [] => some ρ | _ => none
def consT (f : TgM) (g : List D → List D → Option (List D)) : List D → List D → Option (List D) := fun ds ρ => match ds with | d :: ds => (f d ρ).bind fun ρ => g ds ρ | _ => none
theorem g_name (i : Nat) {x : Str} (hN : X.N.Nodup) (hi : X.N[i]? = some x) (hx : Loc X.env.scope x) (hk : E.kp[i]? ≠ some true) (hf : X.fn x = true ∨ X.env.scope.names.lookup x = some .local := by first | exact .inl rfl | exact .inr rfl | assumption) : PG X (.Name x pos) (tPG ⟨X.K, cl⟩ E [i] (nameT i)) :=
  PG_imp (pg_name hN hi hx hf) fun v σ H Q ⟨P, S, T, U, ρ, d, ρ', w, r, hm, q⟩ => by
    cases hm
    obtain ⟨S', w'⟩ := w.store r i hk
    exact q _ S' w' (by simp) fun j hj => List.getElem?_set_ne (fun z => hj (by simp [z]))
theorem gs_nil : PGs X [] (tPGs ⟨X.K, cl⟩ E [] nilT) := PGs_imp pgs_nil fun v σ H Q ⟨P, S, T, U, ρ, ds, ρ', w, r, hm, q⟩ => by
  cases ds with
  | nil => cases hm; exact ⟨r.1, q σ S (w.drop) rfl fun _ _ => rfl⟩
  | cons _ _ => cases hm
theorem gs_cons {es : List Expr} {tl tl2 : List Nat} {f : TgM} {g : List D → List D → Option (List D)} (h1 : PG X e (tPG ⟨X.K, cl⟩ E tl f)) (h2 : PGs X es (tPGs ⟨X.K, cl⟩ E tl2 g))
    (hs : (assignEach (e :: es) X.env).map (·.2) = assign e X.env :: (assignEach es X.env).map (·.2) := by rfl) : PGs X (e :: es) (tPGs ⟨X.K, cl⟩ E (tl ++ tl2) (consT f g)) := PGs_imp (pgs_cons h1 h2 hs) fun v σ H Q ⟨P, S, T, U, ρ, ds, ρ', w, r, hm, q⟩ => by
  cases ds with
  | nil => cases hm
  | cons d ds =>
    obtain ⟨y, ys, U1, U2, e1, r1, r2, hu⟩ := r
    subst hu
    replace hm : ((f d ρ).bind fun ρ => g ds ρ) = some ρ' := hm
    cases ef : f d ρ with
    | none => rw [ef] at hm; cases hm
    | some ρ1 =>
      rw [ef] at hm
      refine ⟨y, ys, e1, P, S, fa T U2, U1, ρ, d, ρ1, ?_, r1, ef, fun σ1 S1 w1 l1 k1 => ⟨P, S1, T, U2, ρ1, ds, ρ', w1, r2, hm, fun σ2 S2 w2 l2 k2 => q σ2 S2 w2 (l2.trans l1) fun j hj => ?_⟩⟩
      · have : fa (fa T U2) U1 = fa T (fa U1 U2) := by rw [fa_assoc, fa_comm U2 U1]
        rw [this]; exact w
      · simp only [List.mem_append, not_or] at hj
        rw [k2 j hj.2, k1 j hj.1]
theorem g_tup {es : List Expr} {k : Nat} {tl : List Nat} {f : List D → List D → Option (List D)} {n : Nat} (hc : X.calm = true) (h : PGs X es (tPGs ⟨X.K, cl⟩ E tl f))
    (hn : (assignEach es X.env).length = n := by rfl) (hst : (assignEach es X.env).findIdx? (·.1) = none := by rfl) (hlen : ∀ ds ρ ρ', f ds ρ = some ρ' → ds.length = n := by intro ds ρ ρ' h; rcases ds with _ | ⟨_, ds⟩ <;> simp_all) : PG X (.Tuple es k pos) (tPG ⟨X.K, cl⟩ E tl (tupT f)) := PG_imp (pg_tup hc h hn hst) fun v σ H Q ⟨P, S, T, U, ρ, d, ρ', w, r, hm, q⟩ => by
  cases d with
  | tup ds =>
    obtain ⟨a, xs, e1, hp, rl⟩ := r
    exact ⟨a, xs, e1, .inl (.inl (w.ph _ _ hp)), by rw [← rl.length]; exact hlen ds ρ ρ' hm, P, S, T, U, ρ, ds, ρ', w, rl, hm, q⟩
  | _ => cases hm
theorem len_nil {ds ρ ρ' : List D} (h : nilT ds ρ = some ρ') : ds.length = 0 := by cases ds <;> first | rfl | cases h
theorem len_cons {f : TgM} {g : List D → List D → Option (List D)} {n : Nat} (hg : ∀ ds ρ ρ', g ds ρ = some ρ' → ds.length = n) (ds ρ ρ' : List D) (h : consT f g ds ρ = some ρ') : ds.length = n + 1 := by
  cases ds with
  | nil => cases h
  | cons d ds =>
    replace h : ((f d ρ).bind fun ρ => g ds ρ) = some ρ' := h
    cases ef : f d ρ with
    | none => rw [ef] at h; cases h
    | some ρ1 => rw [ef] at h; rw [List.length_cons, hg ds ρ1 ρ' h]
end

/-! ### comprehensions -/
def goneAt (ρ : List D) : List Nat → List D
  | [] => ρ
  | v :: vs => (goneAt ρ vs).set v .gone
section
variable {X : Cx} {cl : Nat → Addr} {E : En} {e a b tg : Expr} {pos : Pos} {m ma mb : RM}
theorem RepE.gone {c : LC} {P H : Hp} : ∀ {ρ : List D} {σ : St} {S : FP} (i : Nat), RepE c P H ρ σ S → ∃ S', RepE c P H (ρ.set i .gone) (σ.set i none) S' ∧ ∀ a, S' a ≤ S a
  | [], [], S, i, h => ⟨S, h, fun a => Nat.le_refl _⟩
  | d0 :: ρ, v0 :: σ, S, 0, ⟨T, T2, h1, h2, f⟩ => ⟨fa fz T2, ⟨fz, T2, ⟨rfl, rfl⟩, h2, rfl⟩, fun a => by rw [f]; simp only [fa, fz]; omega⟩
  | d0 :: ρ, v0 :: σ, S, i + 1, ⟨T, T2, h1, h2, f⟩ => by
    obtain ⟨S', k1, k2⟩ := RepE.gone i h2
    exact ⟨fa T S', ⟨T, S', h1, k1, rfl⟩, fun a => by have := k2 a; rw [f]; simp only [fa]; omega⟩
  | [], _ :: _, _, _, h => h.elim
  | _ :: _, [], _, _, h => h.elim
theorem RepE.wipe {c : LC} {P H : Hp} {ρ : List D} {σ : St} {S : FP} (h : RepE c P H ρ σ S) : ∀ vs : List Nat, ∃ S', RepE c P H (goneAt ρ vs) (L2.wipe σ vs) S' ∧ ∀ a, S' a ≤ S a
  | [] => ⟨S, h, fun _ => Nat.le_refl _⟩
  | v :: vs => by
    obtain ⟨S1, h1, h2⟩ := RepE.wipe h vs
    obtain ⟨S2, h3, h4⟩ := RepE.gone v h1
    exact ⟨S2, h3, fun a => Nat.le_trans (h4 a) (h2 a)⟩
theorem wipe_at {σ : St} : ∀ {vs : List Nat} {j : Nat}, j ∉ vs → (L2.wipe σ vs)[j]? = σ[j]?
  | [], j, _ => rfl
  | v :: vs, j, h => by
    simp only [List.mem_cons, not_or] at h
    unfold L2.wipe
    rw [List.getElem?_set_ne (fun z => h.1 z.symm), wipe_at h.2]
theorem wipe_in {σ : St} : ∀ {vs : List Nat} {j : Nat}, j ∈ vs → j < σ.length → (L2.wipe σ vs)[j]? = some none
  | v :: vs, j, h, hl => by
    unfold L2.wipe
    by_cases z : v = j
    · subst z; rw [List.getElem?_set_self (by rw [wipe_length]; exact hl)]
    · rw [List.getElem?_set_ne z]
      exact wipe_in (by simpa [Ne.symm z] using h) hl
theorem wipe_eq {σ σ' : St} {vs : List Nat} (hl : σ'.length = σ.length) (h : ∀ j, j ∉ vs → σ'[j]? = σ[j]?) : L2.wipe σ' vs = L2.wipe σ vs := by
  apply List.ext_getElem?
  intro j
  by_cases hj : j ∈ vs
  · by_cases z : j < σ.length
    · rw [wipe_in hj (by omega), wipe_in hj z]
    · rw [List.getElem?_eq_none (by rw [wipe_length]; omega), List.getElem?_eq_none (by rw [wipe_length]; omega)]
  · rw [wipe_at hj, wipe_at hj, h j hj]
theorem wipe_wipe (σ : St) (vs : List Nat) : L2.wipe (L2.wipe σ vs) vs = L2.wipe σ vs := wipe_eq (wipe_length _ _) fun j hj => wipe_at hj
theorem Wd.wipe {c : LC} {P H : Hp} {S T : FP} {σ : St} {ρ : List D} (w : Wd c E P S T σ H ρ) (vs : List Nat) (hk : ∀ j ∈ vs, E.kp[j]? ≠ some true) : ∃ S', Wd c E P S' T (L2.wipe σ vs) H (goneAt ρ vs) := by
  obtain ⟨S', h1, h2⟩ := RepE.wipe w.env vs
  refine ⟨S', w.shrink h1 (fun a => by have := h2 a; omega) (fun _ => Nat.le_refl _) fun i v h3 h4 => ?_⟩
  rw [wipe_at fun z => hk i z h3]
  exact w.kp i v h3 h4
def compL (f : TgM) (mc : BM) (me : RM) (ρ0 : List D) : List D → Option (List D)
  | [] => some []
  | d :: ds => (f d ρ0).bind fun ρ1 => (mc ρ1).bind fun k => if k = true then (me ρ1).bind fun y => if frz y = true then (compL f mc me ρ0 ds).map fun ys => y :: ys else none else compL f mc me ρ0 ds
def compM (vs : List Nat) (f : TgM) (mc : BM) (me : RM) (ms : AM) : RM := fun ρ => (ms ρ).bind fun ds => if ds.length ≤ LIM then (compL f mc me (goneAt ρ vs) ds).map (.lst true) else none
def yesB : BM := fun _ => some true
theorem compL_len {f : TgM} {mc : BM} {me : RM} {ρ0 : List D} : ∀ {ds ys : List D}, compL f mc me ρ0 ds = some ys → ys.length ≤ ds.length
  | [], ys, h => by cases h; exact Nat.le_refl _
  | d :: ds, ys, h => by
    unfold compL at h
    cases e1 : f d ρ0 with
    | none => rw [e1] at h; cases h
    | some ρ1 =>
      cases e2 : mc ρ1 with
      | none => rw [e1, Option.bind_some, e2] at h; cases h
      | some k =>
        rw [e1, Option.bind_some, e2, Option.bind_some] at h
        split at h
        · cases e3 : me ρ1 with
          | none => rw [e3] at h; cases h
          | some y =>
            rw [e3, Option.bind_some] at h
            split at h
            · cases e4 : compL f mc me ρ0 ds with
              | none => rw [e4] at h; cases h
              | some zs => rw [e4] at h; cases h; have := compL_len e4; simp; omega
            · cases h
        · have := compL_len h; simp; omega
/-- the i-th turn -/
theorem compL_turn {f : TgM} {mc : BM} {me : RM} {ρ0 : List D} : ∀ {ds ys : List D} {i : Nat} {d : D}, compL f mc me ρ0 ds = some ys → ds[i]? = some d → ∃ zs ρ1 k, compL f mc me ρ0 (ds.take i) = some zs ∧ f d ρ0 = some ρ1 ∧ mc ρ1 = some k ∧
    (k = true → ∃ y, me ρ1 = some y ∧ frz y = true ∧ compL f mc me ρ0 (ds.take (i + 1)) = some (zs ++ [y])) ∧ (k = false → compL f mc me ρ0 (ds.take (i + 1)) = some zs)
  | [], ys, i, d, h, e => by simp at e
  | d0 :: ds, ys, i, d, h, e => by
    unfold compL at h
    cases e1 : f d0 ρ0 with
    | none => rw [e1] at h; cases h
    | some ρ1 =>
      cases e2 : mc ρ1 with
      | none => rw [e1, Option.bind_some, e2] at h; cases h
      | some k =>
        rw [e1, Option.bind_some, e2, Option.bind_some] at h
        cases i with
        | zero =>
          simp at e; subst e
          refine ⟨[], ρ1, k, rfl, e1, e2, fun hk => ?_, fun hk => ?_⟩
          · subst hk
            rw [if_pos rfl] at h
            cases e3 : me ρ1 with
            | none => rw [e3] at h; cases h
            | some y =>
              rw [e3, Option.bind_some] at h
              split at h
              · rename_i hf
                exact ⟨y, rfl, hf, by simp [compL, e1, e2, e3, hf]⟩
              · cases h
          · subst hk; simp [compL, e1, e2]
        | succ i =>
          have e' : ds[i]? = some d := by simpa using e
          cases k with
          | true =>
            rw [if_pos rfl] at h
            cases e3 : me ρ1 with
            | none => rw [e3] at h; cases h
            | some y =>
              rw [e3, Option.bind_some] at h
              split at h
              · rename_i hf
                cases e4 : compL f mc me ρ0 ds with
                | none => rw [e4] at h; cases h
                | some ws =>
                  obtain ⟨zs, ρ2, k2, h1, h2, h3, h4, h5⟩ := compL_turn e4 e'
                  refine ⟨y :: zs, ρ2, k2, by simp [compL, e1, e2, e3, hf, h1], h2, h3, fun z => ?_, fun z => ?_⟩
                  · obtain ⟨y2, k3, k4, k5⟩ := h4 z
                    exact ⟨y2, k3, k4, by simp [compL, e1, e2, e3, hf, k5]⟩
                  · simp [compL, e1, e2, e3, hf, h5 z]
              · cases h
          | false =>
            rw [if_neg (by decide)] at h
            obtain ⟨zs, ρ2, k2, h1, h2, h3, h4, h5⟩ := compL_turn h e'
            refine ⟨zs, ρ2, k2, by simp [compL, e1, e2, h1], h2, h3, fun z => ?_, fun z => ?_⟩
            · obtain ⟨y2, k3, k4, k5⟩ := h4 z
              exact ⟨y2, k3, k4, by simp [compL, e1, e2, k5]⟩
            · simp [compL, e1, e2, h5 z]
def tTs (c : LC) (E : En) (mc : BM) : TT := tT c E mc
theorem ts_nil : PTs X [] (tTs ⟨X.K, cl⟩ E yesB) := ⟨fun pins s σ H Q I ⟨P, S, T, ρ, b, w, hm, q⟩ => by
  cases hm
  exact pts_nil.run pins s σ H Q I (q H P (.refl w.ph))⟩
theorem ts_one {c0 : Expr} {mc : BM} (h : PT X c0 (tT ⟨X.K, cl⟩ E mc)) : PTs X [c0] (tTs ⟨X.K, cl⟩ E mc) := pts_one h
theorem lc_run {c : LC} {vs tl : List Nat} {f : TgM} {mc : BM} {me : RM} {ms : AM} (ht : ∀ j ∈ tl, j ∈ vs) (hk : ∀ j ∈ vs, E.kp[j]? ≠ some true) {σ : St} {H : Hp} {Q : VK} (h : tF c E (compM vs f mc me ms) σ H Q) :
    tLc (tI c E ms) (tPG c E tl f) (tTs c E mc) (tR c E me) vs σ H Q := by
  obtain ⟨P, S, T, ρ, d, w, hm, q⟩ := h
  unfold compM at hm
  cases es : ms ρ with
  | none => rw [es] at hm; cases hm
  | some ds =>
    rw [es, Option.bind_some] at hm
    split at hm
    · rename_i hlim
      cases ec : compL f mc me (goneAt ρ vs) ds with
      | none => rw [ec] at hm; cases hm
      | some ys =>
        rw [ec] at hm
        cases hm
        refine ⟨P, S, T, ρ, ds, w, es, fun J H1 P1 g1 io => ?_⟩
        intro Dl hD
        obtain ⟨G, Y, wk, hG, hY⟩ := io
        have hP1 : P1 Dl = none := none_of g1.ph hD
        -- the invariant
        refine lc_it wk (fun i Hh => ∃ P2 zs acc, compL f mc me (goneAt ρ vs) (ds.take i) = some zs ∧ Gr P1 H1 P2 Hh ∧ P2 Dl = none ∧ Hh Dl = some (.lst acc) ∧ RepL c P2 Hh zs acc fz) ?_ ?_ ?_ ?_
        · exact ⟨P1, [], [], rfl, ⟨.refl _, ex_new hD, g1.ph.trans (ex_new hD), fun a z => .inl z⟩, hP1, upd_same, rfl, rfl⟩
        · rintro i Hh hi ⟨P2, zs, acc, h1, g2, _, _, _⟩
          exact hG P2 Hh g2.p g2.ph
        · rintro i x Hh H3 hi ⟨P2, zs, acc, h1, g2, hD2, hDl, rl⟩ y
          obtain ⟨P3, d, g3, hd, rd⟩ := hY i P2 Hh x H3 g2.p g2.ph hi y
          obtain ⟨zs', ρ1, k, t1, t2, t3, t4, t5⟩ := compL_turn ec hd
          rw [h1] at t1
          cases t1
          obtain ⟨S3, w3⟩ := (((w.grow g1).grow g2).grow g3).wipe vs hk
          have w3' : Wd c E P3 S3 (fa T fz) (L2.wipe σ vs) H3 (goneAt ρ vs) := by rw [fa_fz]; exact w3
          have hD3 : P3 Dl = none := by
            cases z : P3 Dl with
            | none => rfl
            | some o =>
              rcases g3.new Dl (by rw [z]; simp) with q' | q'
              · exact absurd hD2 q'
              · rw [hDl] at q'; cases q'
          refine ⟨P3, S3, T, fz, _, d, ρ1, w3', rd, t2, fun σ' S' w4 l4 k4 => ⟨?_, P3, S', T, ρ1, k, w4, t3, fun H4 P4 g4 => ?_⟩⟩
          · rw [wipe_eq (vs := vs) l4 fun j hj => k4 j fun z => hj (ht j z)]
            exact wipe_wipe σ vs
          · have hD4 : P4 Dl = none := by
              cases z : P4 Dl with
              | none => rfl
              | some o =>
                rcases g4.new Dl (by rw [z]; simp) with q' | q'
                · exact absurd hD3 q'
                · rw [g3.h _ _ hDl] at q'; cases q'
            cases k with
            | true =>
              obtain ⟨y', e1, e2, e3⟩ := t4 rfl
              refine iteT ⟨P4, S', T, ρ1, y', w4.grow g4, e1, fun v H5 P5 U5 g5 r5 => ?_⟩
              have hU := Rep.frz0 y' v U5 e2 r5
              subst hU
              have hD5 : P5 Dl = none := by
                cases z : P5 Dl with
                | none => rfl
                | some o =>
                  rcases g5.new Dl (by rw [z]; simp) with q' | q'
                  · exact absurd hD4 q'
                  · rw [g4.h _ _ (g3.h _ _ hDl)] at q'; cases q'
              have gg := ((g2.trans g3).trans g4).trans g5
              have hDl5 : H5 Dl = some (.lst acc) := g5.h _ _ (g4.h _ _ (g3.h _ _ hDl))
              refine ⟨acc, hDl5, ?_, P5, zs ++ [y'], acc ++ [v], e3, ⟨gg.p, fun a o z => ?_, fun a o z => ?_, gg.new⟩, hD5, upd_same, ?_⟩
              · have h2 := compL_len h1
                have h3 := rl.length
                have : zs.length ≤ ds.length := Nat.le_trans h2 (by rw [List.length_take]; omega)
                have : (zs ++ [y']).length ≤ (ds.take (i + 1)).length := compL_len e3
                rw [List.length_append, List.length_take] at this
                have e4 : acc.length < LIM := by
                  simp only [List.length_cons, List.length_nil] at this
                  omega
                exact lim_lt e4
              · by_cases z2 : a = Dl
                · subst z2; rw [hD] at z; cases z
                · rw [upd_ne z2]; exact gg.h a o z
              · by_cases z2 : a = Dl
                · subst z2; rw [hD5] at z; cases z
                · rw [upd_ne z2]; exact g5.ph a o z
              · have r6 := RepL.append (repL_h (H' := upd H5 Dl (.lst (acc ++ [v]))) (((rl.gr g3).gr g4).gr g5)) (show RepL c P5 (upd H5 Dl (.lst (acc ++ [v]))) [y'] [v] fz from ⟨v, [], fz, fz, rfl, Rep.mono (.refl _) y' v fz (fun a o z _ => by simp [fz] at z) r5, ⟨rfl, rfl⟩, (fa_fz fz).symm⟩)
                rwa [fa_fz] at r6
            | false =>
              refine iteF ⟨P4, zs, acc, t5 rfl, (g2.trans g3).trans g4, hD4, g4.h _ _ (g3.h _ _ hDl), (rl.gr g3).gr g4⟩
        · rintro Hh ⟨P2, zs, acc, h1, g2, hD2, hDl, rl⟩
          rw [List.take_length, ec] at h1
          cases h1
          refine q _ Hh P2 (one Dl) (g1.trans g2) ⟨Dl, acc, fz, rfl, hDl, rl, (fa_fz _).symm⟩ one_le fun a z => ?_
          rw [one_pos z]
          refine ⟨?_, hD2⟩
          cases z : H Dl with
          | none => rfl
          | some o => rw [g1.h _ _ z] at hD; cases hD
    · cases hm
theorem f_lc {elt tg iter : Expr} {ifs : List Expr} {scope : Scope} {own : List (Str × Nat)} {tl : List Nat} {f : TgM} {mc : BM} {me : RM} {ms : AM} (hc : X.calm = true) (hN : X.N.Nodup) (hi : PI X tg iter (tI ⟨X.K, cl⟩ E ms)) (ok : BlkOk X.N X.env.scope scope own)
    (hg : ∀ (s : Shared) (H : Hp) (C : Addr) (c : List (Str × Addr)) (fp : List Addr), PG (X.blk s H scope (compEnvC scope c C X.env) fp) tg (tPG ⟨X.K, cl⟩ E tl f)) (ht : ∀ (s : Shared) (H : Hp) (C : Addr) (c : List (Str × Addr)) (fp : List Addr), PTs (X.blk s H scope (compEnvC scope c C X.env) fp) ifs (tTs ⟨X.K, cl⟩ E mc))
    (he : ∀ (s : Shared) (H : Hp) (C : Addr) (c : List (Str × Addr)) (fp : List Addr), PE (X.blk s H scope (compEnvC scope c C X.env) fp) elt (tR ⟨X.K, cl⟩ E me)) (h1 : ∀ j ∈ tl, j ∈ own.map (·.2)) (h2 : ∀ j ∈ own.map (·.2), E.kp[j]? ≠ some true) (hs : ∀ x, foldedSetIterable iter X.env x = pure x := by intro _; rfl) :
    PE X (.ListComp elt [⟨tg, iter, ifs, 0⟩] scope pos) (tF ⟨X.K, cl⟩ E (compM (own.map (·.2)) f mc me ms)) :=
  PE_imp (pe_lc hc hN hi ok hg ht he hs) fun _ _ _ h => lc_run h1 h2 h
end
end LI
namespace LI
open PySem L2

/-! ### statements -/
inductive Fl where
  | nx | rt (d : D) | bk | ct
abbrev SM := List D → Option (Fl × List D)
def SPost (c : LC) (E : En) (P : Hp) (D : Ends) : Fl → List LI.D → Prop
  | .nx, ρ' => ∀ σ' H' P' S', Wd c E P' S' fz σ' H' ρ' → Ex P P' → D.nx σ' H'
  | .rt d, ρ' => ∀ v σ' H' P' S' U, Wd c E P' S' U σ' H' ρ' → Rep c P' H' d v U → D.rt v H'
  | .bk, ρ' => ∀ σ' H' P' S', Wd c E P' S' fz σ' H' ρ' → Ex P P' → D.bk σ' H'
  | .ct, ρ' => ∀ σ' H' P' S', Wd c E P' S' fz σ' H' ρ' → Ex P P' → D.ct σ' H'
def tS (c : LC) (E : En) (m : SM) : TS := fun D σ H => ∃ P S ρ fl ρ', Wd c E P S fz σ H ρ ∧ m ρ = some (fl, ρ') ∧ SPost c E P D fl ρ'
theorem SPost.mono {c : LC} {E : En} {P P2 : Hp} {D : Ends} {fl : Fl} {ρ' : List LI.D} (h : SPost c E P D fl ρ') (e : Ex P P2) : SPost c E P2 D fl ρ' := by
  cases fl with
  | nx => exact fun σ' H' P' S' w x => h σ' H' P' S' w (e.trans x)
  | rt d => exact h
  | bk => exact fun σ' H' P' S' w x => h σ' H' P' S' w (e.trans x)
  | ct => exact fun σ' H' P' S' w x => h σ' H' P' S' w (e.trans x)
section
variable {X : Cx} {cl : Nat → Addr} {E : En} {e a b tg : Expr} {pos : Pos} {m ma mb : SM} {g : GM}
def skipM : SM := fun ρ => some (.nx, ρ)
def seqM (m1 m2 : SM) : SM := fun ρ => (m1 ρ).bind fun r => match r.1 with | .nx => m2 r.2 | _ => some r
theorem s_nil : PSs X [] (tS ⟨X.K, cl⟩ E skipM) := PSs_imp pss_nil fun D σ H ⟨P, S, ρ, fl, ρ', w, hm, q⟩ => by
  cases hm
  exact q σ H P S w (.refl _)
theorem seq_run {c : LC} {D : Ends} {σ : St} {H : Hp} (h : tS c E (seqM ma mb) D σ H) : tSeq (tS c E ma) (tS c E mb) D σ H := by
  obtain ⟨P, S, ρ, fl, ρ', w, hm, q⟩ := h
  unfold seqM at hm
  cases ea : ma ρ with
  | none => rw [ea] at hm; cases hm
  | some r =>
    obtain ⟨f1, ρ1⟩ := r
    rw [ea, Option.bind_some] at hm
    refine ⟨P, S, ρ, f1, ρ1, w, ea, ?_⟩
    cases f1 with
    | nx => exact fun σ' H' P' S' w' x => ⟨P', S', ρ1, fl, ρ', w', hm, q.mono x⟩
    | rt d => cases hm; exact q
    | bk => cases hm; exact q
    | ct => cases hm; exact q
theorem s_cons {st : Stmt} {rest : List Stmt} (h1 : PS X st (tS ⟨X.K, cl⟩ E ma)) (h2 : PSs X rest (tS ⟨X.K, cl⟩ E mb)) : PSs X (st :: rest) (tS ⟨X.K, cl⟩ E (seqM ma mb)) := PSs_imp (pss_cons h1 h2) fun _ _ _ h => seq_run h
theorem s_one {st : Stmt} (h1 : PS X st (tS ⟨X.K, cl⟩ E ma)) : PSs X [st] (tS ⟨X.K, cl⟩ E ma) := pss_one h1
/-- names forgotten -/
theorem RepE.forget {c : LC} {P H : Hp} : ∀ {ρ : List D} {σ : St} {S : FP} (i : Nat), RepE c P H ρ σ S → ∃ S', RepE c P H (ρ.set i .gone) σ S' ∧ ∀ a, S' a ≤ S a
  | [], [], S, i, h => ⟨S, h, fun a => Nat.le_refl _⟩
  | d0 :: ρ, v0 :: σ, S, 0, ⟨T, T2, h1, h2, f⟩ => ⟨fa fz T2, ⟨fz, T2, by cases v0 <;> first | exact ⟨rfl, rfl⟩ | exact rfl, h2, rfl⟩, fun a => by rw [f]; simp only [fa, fz]; omega⟩
  | d0 :: ρ, v0 :: σ, S, i + 1, ⟨T, T2, h1, h2, f⟩ => by
    obtain ⟨S', k1, k2⟩ := RepE.forget i h2
    exact ⟨fa T S', ⟨T, S', h1, k1, rfl⟩, fun a => by have := k2 a; rw [f]; simp only [fa]; omega⟩
  | [], _ :: _, _, _, h => h.elim
  | _ :: _, [], _, _, h => h.elim
theorem Wd.forget {c : LC} {P H : Hp} {S T : FP} {σ : St} {ρ : List D} (w : Wd c E P S T σ H ρ) : ∀ vs : List Nat, ∃ S', Wd c E P S' T σ H (goneAt ρ vs)
  | [] => ⟨S, w⟩
  | v :: vs => by
    obtain ⟨S1, w1⟩ := Wd.forget w vs
    obtain ⟨S2, h1, h2⟩ := RepE.forget v w1.env
    exact ⟨S2, w1.shrink h1 (fun a => by have := h2 a; omega) (fun _ => Nat.le_refl _) w1.kp⟩
def killM (vs : List Nat) (m : SM) : SM := fun ρ => m (goneAt ρ vs)
theorem s_kill (vs : List Nat) {sts : List Stmt} (h : PSs X sts (tS ⟨X.K, cl⟩ E m)) : PSs X sts (tS ⟨X.K, cl⟩ E (killM vs m)) := PSs_imp h fun D σ H ⟨P, S, ρ, fl, ρ', w, hm, q⟩ => by
  obtain ⟨S', w'⟩ := w.forget vs
  exact ⟨P, S', _, fl, ρ', w', hm, q⟩

/-! #### assignment -/
theorem g_run {c : LC} {σ : St} {H : Hp} {Q : VK} {P : Hp} {S : FP} {ρ ρ1 : List D} {d : D} (w : Wd c E P S fz σ H ρ) (hg : g ρ = some (d, ρ1)) (q : ∀ v H' P' S' U, Wd c E P' S' U σ H' ρ1 → Ex P P' → Rep c P' H' d v U → Q v H') : tG c E g σ H Q :=
  ⟨P, S, fz, ρ, d, ρ1, w, hg, fun v H' P' S' U w' e r _ => q v H' P' S' U (by rw [fz_fa] at w'; exact w') e r⟩
def asgM (f : TgM) (g : GM) : SM := fun ρ => (g ρ).bind fun r => (f r.1 r.2).map fun ρ' => (.nx, ρ')
theorem asg_run {c : LC} {tl : List Nat} {f : TgM} {D : Ends} {σ : St} {H : Hp} (h : tS c E (asgM f g) D σ H) : tAsg (tG c E g) (tPG c E tl f) D σ H := by
  obtain ⟨P, S, ρ, fl, ρ', w, hm, q⟩ := h
  unfold asgM at hm
  cases eg : g ρ with
  | none => rw [eg] at hm; cases hm
  | some r =>
    obtain ⟨d, ρ1⟩ := r
    rw [eg, Option.bind_some] at hm
    cases ef : f d ρ1 with
    | none => rw [ef] at hm; cases hm
    | some ρ2 =>
      rw [ef] at hm
      cases hm
      exact g_run w eg fun v H' P' S' U w' e r => ⟨P', S', fz, U, ρ1, d, ρ', by rw [fz_fa]; exact w', r, ef, fun σ2 S2 w2 _ _ => q σ2 H' P' S2 w2 e⟩
theorem s_asg {tl : List Nat} {f : TgM} (he : PE X e (tG ⟨X.K, cl⟩ E g)) (hg : PG X tg (tPG ⟨X.K, cl⟩ E tl f)) (hs : swapsWithSole [tg] e pos.line X.env = pure false := by rfl) (hw : swappedStores [tg] e X.env = pure none := by rfl)
    (h1 : (assignEach [tg] X.env).map (·.2) = [assign tg X.env] := by rfl) : PS X (.Assign [tg] e pos) (tS ⟨X.K, cl⟩ E (asgM f g)) := PS_imp (ps_asg he hg hs hw h1) fun _ _ _ h => asg_run h
theorem s_set (i : Nat) {x : Str} {pos' : Pos} (hN : X.N.Nodup) (hi : X.N[i]? = some x) (hx : Loc X.env.scope x) (hk : E.kp[i]? ≠ some true) (he : PE X e (tG ⟨X.K, cl⟩ E g)) (hs : swapsWith e (some (.Name x pos')) pos.line X.env = pure false := by rfl) (hf : X.fn x = true ∨ X.env.scope.names.lookup x = some .local := by first | exact .inl rfl | exact .inr rfl | assumption) :
    PS X (.Assign [.Name x pos'] e pos) (tS ⟨X.K, cl⟩ E (asgM (nameT i) g)) := PS_imp (ps_set hN hi hx he hs hf) fun D σ H ⟨P, S, ρ, fl, ρ', w, hm, q⟩ => by
  unfold asgM at hm
  cases eg : g ρ with
  | none => rw [eg] at hm; cases hm
  | some r =>
    obtain ⟨d, ρ1⟩ := r
    rw [eg] at hm
    cases hm
    exact g_run w eg fun v H' P' S' U w' e r => by
      obtain ⟨S2, w2⟩ := (show Wd ⟨X.K, cl⟩ E P' S' (fa fz U) σ H' ρ1 by rw [fz_fa]; exact w').store r i hk
      exact q _ H' P' S2 w2 e
theorem s_setLc (i : Nat) {y : Str} {py : Pos} {elt tg iter : Expr} {ifs : List Expr} {scope : Scope} {own : List (Str × Nat)} {spos : Pos} {tl : List Nat} {f : TgM} {mc : BM} {me : RM} {ms : AM} (hc : X.calm = true) (hN : X.N.Nodup) (hy : X.N[i]? = some y) (hyl : X.env.scope.names.lookup y = some .local) (hki : E.kp[i]? ≠ some true)
    (hi : PI X tg iter (tI ⟨X.K, cl⟩ E ms)) (ok : BlkOk X.N X.env.scope scope own)
    (hg : ∀ (s : Shared) (H : Hp) (C : Addr) (c : List (Str × Addr)) (fp : List Addr), PG (X.blk s H scope (compEnvC scope c C X.env) fp) tg (tPG ⟨X.K, cl⟩ E tl f)) (ht : ∀ (s : Shared) (H : Hp) (C : Addr) (c : List (Str × Addr)) (fp : List Addr), PTs (X.blk s H scope (compEnvC scope c C X.env) fp) ifs (tTs ⟨X.K, cl⟩ E mc))
    (he : ∀ (s : Shared) (H : Hp) (C : Addr) (c : List (Str × Addr)) (fp : List Addr), PE (X.blk s H scope (compEnvC scope c C X.env) fp) elt (tR ⟨X.K, cl⟩ E me)) (h1 : ∀ j ∈ tl, j ∈ own.map (·.2)) (h2 : ∀ j ∈ own.map (·.2), E.kp[j]? ≠ some true)
    (hsw : swapsWith (.ListComp elt [⟨tg, iter, ifs, 0⟩] scope pos) (some (.Name y py)) spos.line X.env = pure true) (hs : ∀ x, foldedSetIterable iter X.env x = pure x := by intro _; rfl) :
    PS X (.Assign [.Name y py] (.ListComp elt [⟨tg, iter, ifs, 0⟩] scope pos) spos) (tS ⟨X.K, cl⟩ E (asgM (nameT i) (upF (compM (own.map (·.2)) f mc me ms)))) :=
  PS_imp (ps_setLc hc hN hy hyl hsw hi ok hg ht he hs) fun D σ H ⟨P, S, ρ, fl, ρ', w, hm, q⟩ => by
    unfold asgM upF at hm
    cases eg : compM (own.map (·.2)) f mc me ms ρ with
    | none => rw [eg] at hm; cases hm
    | some d =>
      rw [eg] at hm
      cases hm
      refine lc_run (c := ⟨X.K, cl⟩) h1 h2 ⟨P, S, fz, ρ, d, w, eg, fun v H' P' U g r u1 u2 => ?_⟩
      obtain ⟨S2, w2⟩ := (w.aside g u1 u2 (Rep.there d v U r)).store r i hki
      exact q _ H' P' S2 w2 g.p

/-! #### the other plain ones -/
def exprM (g : GM) : SM := fun ρ => (g ρ).map fun r => (.nx, r.2)
theorem s_expr (he : PE X e (tG ⟨X.K, cl⟩ E g)) (hs : swapsWith e none pos.line X.env = pure false := by rfl) : PS X (.Expr e pos) (tS ⟨X.K, cl⟩ E (exprM g)) := PS_imp (ps_expr he hs) fun D σ H ⟨P, S, ρ, fl, ρ', w, hm, q⟩ => by
  unfold exprM at hm
  cases eg : g ρ with
  | none => rw [eg] at hm; cases hm
  | some r =>
    rw [eg] at hm
    cases hm
    exact g_run w eg fun v H' P' S' U w' e r => q σ H' P' S' (Wd.drop (U := U) (by rw [fz_fa]; exact w')) e
def retM (g : GM) : SM := fun ρ => (g ρ).map fun r => (.rt r.1, r.2)
theorem s_ret (he : PE X e (tG ⟨X.K, cl⟩ E g)) : PS X (.Return (some e) pos) (tS ⟨X.K, cl⟩ E (retM g)) := PS_imp (ps_ret he) fun D σ H ⟨P, S, ρ, fl, ρ', w, hm, q⟩ => by
  unfold retM at hm
  cases eg : g ρ with
  | none => rw [eg] at hm; cases hm
  | some r =>
    rw [eg] at hm
    cases hm
    exact g_run w eg fun v H' P' S' U w' e r => q v σ H' P' S' U w' r
def retNM : SM := fun ρ => some (.rt .non, ρ)
theorem s_retN : PS X (.Return none pos) (tS ⟨X.K, cl⟩ E retNM) := PS_imp ps_retN fun D σ H ⟨P, S, ρ, fl, ρ', w, hm, q⟩ => by
  cases hm
  exact q _ σ H P S fz w ⟨rfl, rfl⟩
def bkM : SM := fun ρ => some (.bk, ρ)
def ctM : SM := fun ρ => some (.ct, ρ)
theorem s_pass : PS X (.Pass pos) (tS ⟨X.K, cl⟩ E skipM) := PS_imp ps_pass fun D σ H ⟨P, S, ρ, fl, ρ', w, hm, q⟩ => by
  cases hm; exact q σ H P S w (.refl _)
theorem s_bk : PS X (.Break pos) (tS ⟨X.K, cl⟩ E bkM) := PS_imp ps_break fun D σ H ⟨P, S, ρ, fl, ρ', w, hm, q⟩ => by
  cases hm; exact q σ H P S w (.refl _)
theorem s_ct : PS X (.Continue pos) (tS ⟨X.K, cl⟩ E ctM) := PS_imp ps_continue fun D σ H ⟨P, S, ρ, fl, ρ', w, hm, q⟩ => by
  cases hm; exact q σ H P S w (.refl _)
/-- never come to -/
def noM' : SM := fun _ => none
theorem s_never {st : Stmt} : PS X st (tS ⟨X.K, cl⟩ E noM') := PS_imp ps_never fun D σ H ⟨P, S, ρ, fl, ρ', w, hm, q⟩ => by cases hm
def upB (m : BM) : BGM := fun ρ => (m ρ).map fun k => (k, ρ)
theorem tg_t {m : BM} (h : PT X e (tT ⟨X.K, cl⟩ E m)) : PT X e (tTG ⟨X.K, cl⟩ E (upB m)) := PT_imp h fun σ H Q ⟨P, S, T, ρ, b, ρ', w, hm, q⟩ => by
  unfold upB at hm
  cases ea : m ρ with
  | none => rw [ea] at hm; cases hm
  | some k =>
    rw [ea] at hm
    cases hm
    exact ⟨P, S, T, ρ, b, w, ea, fun H' P' g => q H' P' S (w.grow g) g.p fun a o _ h => g.h a o h⟩
def ifGM (mc : BGM) (ma mb : SM) : SM := fun ρ => (mc ρ).bind fun r => if r.1 = true then ma r.2 else mb r.2
theorem s_ifG {mc : BGM} {sa sb : List Stmt} (hc : PT X e (tTG ⟨X.K, cl⟩ E mc)) (ha : PSs X sa (tS ⟨X.K, cl⟩ E ma)) (hb : PSs X sb (tS ⟨X.K, cl⟩ E mb)) : PS X (.If e sa sb pos) (tS ⟨X.K, cl⟩ E (ifGM mc ma mb)) := PS_imp (ps_if hc ha hb) fun D σ H ⟨P, S, ρ, fl, ρ', w, hm, q⟩ => by
  unfold ifGM at hm
  cases ec : mc ρ with
  | none => rw [ec] at hm; cases hm
  | some r =>
    obtain ⟨k, ρ1⟩ := r
    rw [ec, Option.bind_some] at hm
    refine ⟨P, S, fz, ρ, k, ρ1, w, ec, fun H' P' S' w' x _ => ?_⟩
    cases k with
    | true => exact iteT ⟨P', S', ρ1, fl, ρ', w', hm, q.mono x⟩
    | false => exact iteF ⟨P', S', ρ1, fl, ρ', w', hm, q.mono x⟩
def ifM (mc : BM) (ma mb : SM) : SM := fun ρ => (mc ρ).bind fun k => if k = true then ma ρ else mb ρ
theorem s_if {mc : BM} {sa sb : List Stmt} (hc : PT X e (tT ⟨X.K, cl⟩ E mc)) (ha : PSs X sa (tS ⟨X.K, cl⟩ E ma)) (hb : PSs X sb (tS ⟨X.K, cl⟩ E mb)) : PS X (.If e sa sb pos) (tS ⟨X.K, cl⟩ E (ifM mc ma mb)) := PS_imp (ps_if hc ha hb) fun D σ H ⟨P, S, ρ, fl, ρ', w, hm, q⟩ => by
  unfold ifM at hm
  cases ec : mc ρ with
  | none => rw [ec] at hm; cases hm
  | some k =>
    rw [ec, Option.bind_some] at hm
    refine ⟨P, S, fz, ρ, k, w, ec, fun H' P' g => ?_⟩
    cases k with
    | true => exact iteT ⟨P', S, ρ, fl, ρ', w.grow g, hm, q.mono g.p⟩
    | false => exact iteF ⟨P', S, ρ, fl, ρ', w.grow g, hm, q.mono g.p⟩

/-! #### loops -/
def forL (f : TgM) (body : SM) (kl : List Nat) : List D → List D → Option (Fl × List D)
  | [], ρ => some (.nx, ρ)
  | d :: ds, ρ => (f d ρ).bind fun ρ1 => (body ρ1).bind fun r => match r.1 with
    | .nx => forL f body kl ds (goneAt r.2 kl)
    | .ct => forL f body kl ds (goneAt r.2 kl)
    | .bk => some (.nx, goneAt r.2 kl)
    | .rt d => some (.rt d, r.2)
def forM (f : TgM) (body : SM) (kl : List Nat) (ms : AM) : SM := fun ρ => (ms ρ).bind fun ds => forL f body kl ds ρ
theorem for_run {c : LC} {tl kl : List Nat} {f : TgM} {body : SM} {ms : AM} {D : Ends} {σ : St} {H : Hp} (h : tS c E (forM f body kl ms) D σ H) : tFor (tI c E ms) (tPG c E tl f) (tS c E body) D σ H := by
  obtain ⟨P, S, ρ, fl, ρ', w, hm, q⟩ := h
  unfold forM at hm
  cases es : ms ρ with
  | none => rw [es] at hm; cases hm
  | some ds =>
    rw [es, Option.bind_some] at hm
    refine ⟨P, S, fz, ρ, ds, w, es, fun J H1 P1 g1 io => ?_⟩
    obtain ⟨G, Y, wk, hG, hY⟩ := io
    refine for_it wk (fun i σi Hi => ∃ P2 S2 ρi, Wd c E P2 S2 fz σi Hi ρi ∧ Ex P1 P2 ∧ forL f body kl (ds.drop i) ρi = some (fl, ρ')) ?_ ?_ ?_ ?_
    · exact ⟨P1, S, ρ, w.grow g1, .refl _, hm⟩
    · rintro i σi Hi hi ⟨P2, S2, ρi, w2, e2, _⟩
      exact hG P2 Hi e2 w2.ph
    · rintro i x σi Hi H3 hi ⟨P2, S2, ρi, w2, e2, hf⟩ y
      obtain ⟨P3, d, g3, hd, rd⟩ := hY i P2 Hi x H3 e2 w2.ph hi y
      have hdrop : ds.drop i = d :: ds.drop (i + 1) := by
        rw [List.drop_eq_getElem_cons hi]
        congr 1
        rw [List.getElem?_eq_getElem hi] at hd
        exact Option.some.inj hd
      rw [hdrop] at hf
      unfold forL at hf
      cases ef : f d ρi with
      | none => rw [ef] at hf; cases hf
      | some ρ1 =>
        cases eb : body ρ1 with
        | none => rw [ef, Option.bind_some, eb] at hf; cases hf
        | some r =>
          obtain ⟨f1, ρ2⟩ := r
          rw [ef, Option.bind_some, eb, Option.bind_some] at hf
          have w3 : Wd c E P3 S2 (fa fz fz) σi H3 ρi := by rw [fa_fz]; exact w2.grow g3
          refine ⟨P3, S2, fz, fz, ρi, d, ρ1, w3, rd, ef, fun σ4 S4 w4 _ _ => ⟨P3, S4, ρ1, f1, ρ2, w4, eb, ?_⟩⟩
          cases f1 with
          | nx =>
            intro σ' H' P' S' w' x'
            obtain ⟨S5, w5⟩ := w'.forget kl
            exact ⟨P', S5, _, w5, (e2.trans g3.p).trans x', hf⟩
          | ct =>
            intro σ' H' P' S' w' x'
            obtain ⟨S5, w5⟩ := w'.forget kl
            exact ⟨P', S5, _, w5, (e2.trans g3.p).trans x', hf⟩
          | bk =>
            cases hf
            intro σ' H' P' S' w' x'
            obtain ⟨S5, w5⟩ := w'.forget kl
            exact q σ' H' P' S5 w5 (((g1.p.trans e2).trans g3.p).trans x')
          | rt d' =>
            cases hf
            exact q
    · rintro σi Hi ⟨P2, S2, ρi, w2, e2, hf⟩
      rw [List.drop_length] at hf
      cases hf
      exact q σi Hi P2 S2 w2 (g1.p.trans e2)
theorem s_for {iter : Expr} {sb : List Stmt} {tl : List Nat} (kl : List Nat) {f : TgM} {body : SM} {ms : AM} (hp : PassesOwn (model X.prog X.w) X.A X.env X.xe) (hc : X.calm = true) (hi : PI X tg iter (tI ⟨X.K, cl⟩ E ms)) (hg : PG X tg (tPG ⟨X.K, cl⟩ E tl f)) (hb : PSs X sb (tS ⟨X.K, cl⟩ E body))
    (hs : ∀ x, foldedSetIterable iter X.env x = pure x := by intro _; rfl) : PS X (.For tg iter sb [] pos) (tS ⟨X.K, cl⟩ E (forM f body kl ms)) := PS_imp (ps_for hp hc hi hg hb hs) fun _ _ _ h => for_run h
def whileL (mc : BM) (body : SM) (kl : List Nat) : Nat → List D → Option (Fl × List D)
  | 0, _ => none
  | n + 1, ρ => (mc ρ).bind fun k => if k = true then (body ρ).bind fun r => match r.1 with
    | .nx => whileL mc body kl n (goneAt r.2 kl)
    | .ct => whileL mc body kl n (goneAt r.2 kl)
    | .bk => some (.nx, goneAt r.2 kl)
    | .rt d => some (.rt d, r.2)
    else some (.nx, ρ)
def whileM (n : Nat) (mc : BM) (body : SM) (kl : List Nat) : SM := fun ρ => whileL mc body kl n ρ
theorem while_run {c : LC} {n : Nat} {kl : List Nat} {mc : BM} {body : SM} {D : Ends} {σ : St} {H : Hp} (h : tS c E (whileM n mc body kl) D σ H) : tWhile (tT c E mc) (tS c E body) D σ H := by
  obtain ⟨P, S, ρ, fl, ρ', w, hm, q⟩ := h
  unfold whileM at hm
  refine ⟨fun i σi Hi => ∃ P2 S2 ρi, Wd c E P2 S2 fz σi Hi ρi ∧ Ex P P2 ∧ whileL mc body kl i ρi = some (fl, ρ'), ⟨n, P, S, ρ, w, .refl _, hm⟩, ?_⟩
  rintro i σi Hi ⟨P2, S2, ρi, w2, e2, hf⟩
  cases i with
  | zero => cases hf
  | succ i =>
    unfold whileL at hf
    cases ec : mc ρi with
    | none => rw [ec] at hf; cases hf
    | some k =>
      rw [ec, Option.bind_some] at hf
      refine ⟨P2, S2, fz, ρi, k, w2, ec, fun H3 P3 g3 => ?_⟩
      cases k with
      | false =>
        rw [if_neg (by decide)] at hf
        cases hf
        exact iteF (q σi H3 P3 S2 (w2.grow g3) (e2.trans g3.p))
      | true =>
        rw [if_pos rfl] at hf
        refine iteT ⟨fun σ' H' => ∃ P2 S2 ρi, Wd c E P2 S2 fz σ' H' ρi ∧ Ex P P2 ∧ whileL mc body kl i ρi = some (fl, ρ'), fun σ' H' hN => ⟨i, Nat.lt_succ_self _, hN⟩, ?_⟩
        cases eb : body ρi with
        | none => rw [eb] at hf; cases hf
        | some r =>
          obtain ⟨f1, ρ2⟩ := r
          rw [eb, Option.bind_some] at hf
          refine ⟨P3, S2, ρi, f1, ρ2, w2.grow g3, eb, ?_⟩
          cases f1 with
          | nx =>
            intro σ' H' P' S' w' x'
            obtain ⟨S5, w5⟩ := w'.forget kl
            exact ⟨P', S5, _, w5, (e2.trans g3.p).trans x', hf⟩
          | ct =>
            intro σ' H' P' S' w' x'
            obtain ⟨S5, w5⟩ := w'.forget kl
            exact ⟨P', S5, _, w5, (e2.trans g3.p).trans x', hf⟩
          | bk =>
            cases hf
            intro σ' H' P' S' w' x'
            obtain ⟨S5, w5⟩ := w'.forget kl
            exact q σ' H' P' S5 w5 ((e2.trans g3.p).trans x')
          | rt d' =>
            cases hf
            exact q
theorem s_while (n : Nat) (kl : List Nat) {sb : List Stmt} {mc : BM} {body : SM} (hp : PassesOwn (model X.prog X.w) X.A X.env X.xe) (hc : PT X e (tT ⟨X.K, cl⟩ E mc)) (hb : PSs X sb (tS ⟨X.K, cl⟩ E body)) : PS X (.While e sb [] pos) (tS ⟨X.K, cl⟩ E (whileM n mc body kl)) := PS_imp (ps_while hp hc hb) fun _ _ _ h => while_run h
end
end LI
namespace LI
open PySem L2 PyProof.Rows

/-! ### a def's promise -/
/-- from the entry to the end -/
structure Stp (P0 : Hp) (S0 : FP) (H0 P : Hp) (T : FP) (H : Hp) : Prop where
  p0 : Ex P0 P
  ph : Ex P H
  fr : ∀ a o, S0 a = 0 → H0 a = some o → H a = some o
  np : ∀ a, P a ≠ none → P0 a ≠ none ∨ 0 < S0 a ∨ H0 a = none
  ns : ∀ a, 0 < T a → 0 < S0 a ∨ H0 a = none
  le : ∀ a, T a ≤ 1
  out : ∀ a, 0 < T a → P a = none
abbrev FM := List D → Option (D × List D)
def spD (c : LC) (F : FM) : Sp := fun vs H Q _ => ∃ P S ds d ds', RepL c P H ds vs S ∧ Ex P H ∧ (∀ a, S a ≤ 1) ∧ (∀ a, 0 < S a → P a = none) ∧ F ds = some (d, ds') ∧
  ∀ v H' P' U S', Stp P S H P' (fa U S') H' → Rep c P' H' d v U → RepL c P' H' ds' vs S' → Q v H'
def maskL : List Bool → List D → List D
  | [], _ => []
  | _ :: bs, [] => .gone :: maskL bs []
  | b :: bs, d :: ds => (if b = true then d else .gone) :: maskL bs ds
def runM (n : Nat) (kp : List Bool) (m : SM) : FM := fun ds => if ds.length = kp.length then (m (ds ++ List.replicate (n - ds.length) .gone)).bind fun r => match r.1 with
  | .rt d => some (d, maskL kp r.2)
  | .nx => some (.non, maskL kp r.2)
  | _ => none
  else none
theorem repE_none {c : LC} {P H : Hp} : ∀ n : Nat, RepE c P H (List.replicate n .gone) (List.replicate n none) fz
  | 0 => rfl
  | n + 1 => ⟨fz, fz, ⟨rfl, rfl⟩, repE_none n, (fa_fz fz).symm⟩
theorem repE_start {c : LC} {P H : Hp} (n : Nat) : ∀ {ds : List D} {vs : List V} {S : FP}, RepL c P H ds vs S → RepE c P H (ds ++ List.replicate n .gone) (vs.map some ++ List.replicate n none) S
  | [], vs, S, r => by rw [r.1, r.2]; exact repE_none n
  | d :: ds, vs, S, ⟨y, ys, T, U, e, r, rs, f⟩ => by rw [e]; exact ⟨T, U, r, repE_start n rs, f⟩
theorem mask_rep {c : LC} {P H : Hp} : ∀ {kp : List Bool} {vs : List V} {ρ : List D} {σ : L2.St} {S : FP}, RepE c P H ρ σ S → kp.length = vs.length → (∀ (i : Nat) (v : V), kp[i]? = some true → vs[i]? = some v → σ[i]? = some (some v)) →
    ∃ S', RepL c P H (maskL kp ρ) vs S' ∧ ∀ a, S' a ≤ S a
  | [], vs, ρ, σ, S, r, h1, h3 => by
    have : vs = [] := List.length_eq_zero_iff.mp h1.symm
    subst this
    exact ⟨fz, ⟨rfl, rfl⟩, fun a => Nat.zero_le _⟩
  | b :: kp, [], ρ, σ, S, r, h1, h3 => by simp at h1
  | b :: kp, v :: vs, [], [], S, r, h1, h3 => by
    obtain ⟨S', k1, k2⟩ := mask_rep (kp := kp) (vs := vs) (ρ := []) (σ := []) r (by simpa using h1) fun i u z1 z2 => by
      have := h3 (i + 1) u (by simpa using z1) (by simpa using z2)
      simpa using this
    exact ⟨fa fz S', ⟨v, vs, fz, S', rfl, rfl, k1, rfl⟩, fun a => by have := k2 a; simp only [fa, fz]; omega⟩
  | b :: kp, v :: vs, [], _ :: _, S, r, h1, h3 => r.elim
  | b :: kp, v :: vs, d :: ρ, [], S, r, h1, h3 => r.elim
  | b :: kp, v :: vs, d :: ρ, ov :: σ, S, ⟨T, U, r, rs, f⟩, h1, h3 => by
    obtain ⟨S', k1, k2⟩ := mask_rep (kp := kp) (vs := vs) rs (by simpa using h1) fun i u z1 z2 => by
      have := h3 (i + 1) u (by simpa using z1) (by simpa using z2)
      simpa using this
    cases b with
    | false => exact ⟨fa fz S', ⟨v, vs, fz, S', rfl, rfl, k1, rfl⟩, fun a => by have := k2 a; rw [f]; simp only [fa, fz]; omega⟩
    | true =>
      have e := h3 0 v rfl rfl
      simp at e
      subst e
      exact ⟨fa T S', ⟨v, vs, T, S', rfl, r, k1, rfl⟩, fun a => by have := k2 a; rw [f]; simp only [fa]; omega⟩
section
variable {P : Program} {w : World} {K : PySem.W.Frag} {mg : Str → Option Value} {base : Heap} {cl : Nat → Addr}
/-- THE RULE for a def -/
theorem ok_def {x qual : Str} {st : Stmt} {f : Addr} {fd : FuncData} {N ps : List Str} {k : Nat} {kp : List Bool} {m : SM} (F : Fun K x qual st f fd) (S : FnScope N ps (defScope st)) (hk : kp.length = ps.length)
    (hbody : ∀ (cdv : Value) (A : Around) (outer : List Env) (s : Shared) (H : Hp) (E : XK) (e : En), e.kp = kp → Room k (A.deeper (envOfC qual (defScope st) s.heap.objs.size f cdv)) →
      PSs (cxOf CX0 P w K mg base N qual (defScope st) f cdv A outer s H E).nox (defBody st) (tS ⟨K, cl⟩ e m)) : FnOk P w K mg base CX0 (k + 1) f fd ps (spD ⟨K, cl⟩ (runM N.length kp m)) := by
  refine F.ok S (fun vs H Q E h => ?_) (fun cdv A outer s H vs Q E hr h => ?_)
  · obtain ⟨Pp, Sp, ds, d, ds', r, _, _, _, hm, _⟩ := h
    unfold runM at hm
    split at hm
    · rename_i hl
      rw [← r.length, hl, hk]
    · cases hm
  · obtain ⟨Pp, Sp, ds, d, ds', r, e1, e2, e3, hm, q⟩ := h
    unfold runM at hm
    split at hm
    · rename_i hl
      have hlv : vs.length = kp.length := by rw [← r.length, hl]
      refine ⟨_, hbody cdv A outer s H E ⟨Pp, H, Sp, kp, vs⟩ rfl hr, ?_⟩
      cases em : m (ds ++ List.replicate (N.length - ds.length) .gone) with
      | none => rw [em] at hm; cases hm
      | some rr =>
        obtain ⟨fl, ρ'⟩ := rr
        rw [em, Option.bind_some] at hm
        have w0 : Wd ⟨K, cl⟩ ⟨Pp, H, Sp, kp, vs⟩ Pp Sp fz (L2.start N vs) H (ds ++ List.replicate (N.length - ds.length) .gone) := by
          refine ⟨?_, fun a => by have := e2 a; simp only [fz]; omega, fun a h => e3 a (by simpa [fz] using h), fun a h => by simp [fz] at h, e1, .refl _, fun _ _ _ h => h, fun a h => .inl h, fun a h => .inl (by simpa [fz] using h), fun i v h1 h2 => ?_⟩
          · unfold L2.start
            rw [r.length]
            exact repE_start _ r
          · unfold L2.start
            have h2 : vs[i]? = some v := h2
            rw [List.getElem?_append_left (by rw [List.length_map]; exact (List.getElem?_eq_some_iff.mp h2).1), List.getElem?_map, h2]
            rfl
        have fin : ∀ (v : V) (σ' : L2.St) (H' P' : Hp) (S' U : FP) (d1 : D), Wd ⟨K, cl⟩ ⟨Pp, H, Sp, kp, vs⟩ P' S' U σ' H' ρ' → Rep ⟨K, cl⟩ P' H' d1 v U → some (d1, maskL kp ρ') = some (d, ds') → Q v H' := by
          intro v σ' H' P' S' U d1 w' rd hs
          cases hs
          obtain ⟨S2, k1, k2⟩ := mask_rep (kp := kp) (vs := vs) w'.env hlv.symm w'.kp
          exact q v H' P' U S2 ⟨w'.p0, w'.ph, w'.fr, w'.np, fun a h => w'.ns a (by have := k2 a; simp only [fa] at h; omega), fun a => by have := k2 a; have := w'.le a; simp only [fa]; omega, fun a h => w'.out a (by have := k2 a; simp only [fa] at h; omega)⟩ rd k1
        refine ⟨Pp, Sp, _, fl, ρ', w0, em, ?_⟩
        cases fl with
        | nx => exact fun σ' H' P' S' w' _ => fin .non σ' H' P' S' fz .non w' ⟨rfl, rfl⟩ hm
        | rt d1 => exact fun v σ' H' P' S' U w' r => fin v σ' H' P' S' U d1 w' r hm
        | bk => cases hm
        | ct => cases hm
    · cases hm
end
end LI
namespace LI
open PySem L2

/-! ### calls that leave their arguments alone -/
def isFlat : D → Bool
  | .non => true | .bl _ => true | .int _ => true | .str _ => true | _ => false
theorem flat_any {c : LC} {P H P' H' : Hp} : ∀ {d : D} {v : V} {U : FP}, isFlat d = true → Rep c P H d v U → Rep c P' H' d v fz
  | .non, v, U, _, r => ⟨r.1, rfl⟩
  | .bl _, v, U, _, r => ⟨r.1, rfl⟩
  | .int _, v, U, _, r => ⟨r.1, rfl⟩
  | .str _, v, U, _, r => ⟨r.1, rfl⟩
def callM (F : FM) (ms : AM) : RM := fun ρ => (ms ρ).bind fun ds => (F (iceL ds)).bind fun r => if frzL ds = true ∨ isFlat r.1 = true then some r.1 else none
/-- the views frozen for a while -/
def coldP (U : FP) (P H : Hp) : Hp := fun a => if 0 < U a then H a else P a
theorem coldP_p {U : FP} {P H : Hp} (e : Ex P H) : Ex P (coldP U P H) := fun a o h => by
  unfold coldP
  split
  · exact e a o h
  · exact h
theorem coldP_h {U : FP} {P H : Hp} (e : Ex P H) : Ex (coldP U P H) H := fun a o h => by
  unfold coldP at h
  split at h
  · exact h
  · exact e a o h
theorem coldP_fz {P H : Hp} : coldP fz P H = P := by funext a; simp [coldP, fz]
theorem spD_view {c : LC} {F : FM} {P H : Hp} {ds : List D} {vs : List V} {U : FP} {d : D} {ds' : List D} {Q : VK} {E : XK} (e : Ex P H) (r : RepL c P H ds vs U) (hf : F (iceL ds) = some (d, ds')) (hz : frzL ds = true ∨ isFlat d = true) (q : FQ c P H d Q) : spD c F vs H Q E := by
  refine ⟨coldP U P H, fz, iceL ds, d, ds', RepL.ice (coldP_p e) ds vs U (fun a o h1 h2 => by unfold coldP; rw [if_pos h1]; exact h2) r, coldP_h e, fun _ => Nat.zero_le _, fun a h => by simp [fz] at h, hf, fun v H' P' U2 S' st rd rs => ?_⟩
  have hH : Ex H H' := fun a o h => st.fr a o rfl h
  rcases hz with hz | hz
  · have := RepL.frz0 ds vs U hz r
    subst this
    rw [coldP_fz] at st
    refine q v H' P' U2 ⟨st.p0, hH, st.ph, fun a h => by rcases st.np a h with z | z | z <;> first | exact .inl z | (simp [fz] at z; done) | exact .inr z⟩ rd (fun a => by have := st.le a; simp only [fa] at this; omega) fun a h => ?_
    refine ⟨?_, st.out a (by simp only [fa]; omega)⟩
    rcases st.ns a (by simp only [fa]; omega) with z | z
    · simp [fz] at z
    · exact z
  · exact q v H' P fz ⟨.refl _, hH, e.trans hH, fun a h => .inl h⟩ (flat_any (c := c) hz rd) (fun _ => Nat.zero_le _) fun a h => by simp [fz] at h
section
variable {X : Cx} {cl : Nat → Addr} {E : En} {e a b o : Expr} {es : List Expr} {pos p apos : Pos} {m : RM} {ms : AM} {CX : CXT} {k : Nat} {f C : Addr} {fd : FuncData} {ps : List Str} {F : FM} {XE : XK} {x nm : Str}
theorem call_split {ρ : List D} {d : D} (h : callM F ms ρ = some d) : ∃ ds ds', ms ρ = some ds ∧ F (iceL ds) = some (d, ds') ∧ (frzL ds = true ∨ isFlat d = true) := by
  unfold callM at h
  cases e1 : ms ρ with
  | none => rw [e1] at h; cases h
  | some ds =>
    rw [e1, Option.bind_some] at h
    cases e2 : F (iceL ds) with
    | none => rw [e2] at h; cases h
    | some r =>
      rw [e2, Option.bind_some] at h
      split at h
      · rename_i hz
        cases h
        exact ⟨ds, r.2, rfl, e2, hz⟩
      · cases h
theorem f_call (G : FnOk X.prog X.w X.K X.mg X.base CX k f fd ps (spD ⟨X.K, cl⟩ F)) (hr : Room k X.A) (hg : Gl X x) (hm : X.mg x = some (.ref f)) (hk : PySem.W.keepIn X.K (.ref f) = true) (hb : Binds X.K fd ps []) (hx : Passes CX X XE)
    (ha : PA X (e :: es) (tAR ⟨X.K, cl⟩ E ms)) (hdb : (x == ("__debug__" : Str)) = false := by decide) (he : starEach (e :: es) X.env = (false, eval e X.env) :: starEach es X.env := by rfl) (hpl : (backTo pos (starEach es X.env)).any (·.1) = false := by rfl) :
    PE X (.Call (.Name x p) (e :: es) [] pos) (tF ⟨X.K, cl⟩ E (callM F ms)) := PE_imp (pe_call G hr hg hm hk hb .nil hx ha hdb he hpl) fun σ H Q ⟨P, S, T, ρ, d, w, h, q⟩ => by
  obtain ⟨ds, ds', e1, e2, hz⟩ := call_split h
  refine ⟨P, S, T, ρ, ds, w, e1, fun vs H1 P1 U1 g1 r1 => ?_⟩
  show spD ⟨X.K, cl⟩ F (vs ++ []) H1 Q XE
  rw [List.append_nil]
  exact spD_view g1.ph r1 e2 hz (q.grow g1)
theorem f_call0 (G : FnOk X.prog X.w X.K X.mg X.base CX k f fd ps (spD ⟨X.K, cl⟩ F)) (hr : Room k X.A) (hg : Gl X x) (hm : X.mg x = some (.ref f)) (hk : PySem.W.keepIn X.K (.ref f) = true) (hb : Binds X.K fd ps []) (hx : Passes CX X XE)
    (hdb : (x == ("__debug__" : Str)) = false := by decide) : PE X (.Call (.Name x p) [] [] pos) (tF ⟨X.K, cl⟩ E (callM F nilM)) := PE_imp (pe_call0 G hr hg hm hk hb .nil hx hdb) fun σ H Q ⟨P, S, T, ρ, d, w, h, q⟩ => by
  obtain ⟨ds, ds', e1, e2, hz⟩ := call_split h
  cases e1
  exact spD_view (c := ⟨X.K, cl⟩) (E := XE) (ds := []) (vs := []) w.ph (show RepL ⟨X.K, cl⟩ P H [] [] fz from ⟨rfl, rfl⟩) e2 hz q

/-! ### a new instance -/
def mkM (n : Nat) (F : FM) (ms : AM) : RM := fun ρ => (ms ρ).bind fun ds => if frzL ds = true then (F (.obj true n [] [] :: ds)).bind fun r => match r with | (.non, self :: _) => some self | _ => none else none
theorem mk_run {c : LC} {n : Nat} {P H : Hp} {ds : List D} {vs : List V} {self : D} {ds' : List D} {Q : VK} {XE : XK} (e : Ex P H) (r : RepL c P H ds vs fz) (hf : F (.obj true n [] [] :: ds) = some (.non, self :: ds')) (q : FQ c P H self Q) :
    ∀ x dx, H x = none → H dx = none → dx ≠ x → spD c F (.ref x :: (vs ++ [])) (upd (upd H dx (.own x)) x (.ins (c.cl n) dx [])) (fun v H2 => v = .non ∧ Q (.ref x) H2) XE := by
  intro x dx hx hdx hne
  have ex : Ex H (upd (upd H dx (.own x)) x (.ins (c.cl n) dx [])) := fun a o z => by
    rw [upd_ne (ne_of_none z hx), upd_ne (ne_of_none z hdx)]; exact z
  have back : ∀ a, upd (upd H dx (.own x)) x (.ins (c.cl n) dx []) a = none → H a = none := fun a z => by
    cases q : H a with
    | none => rfl
    | some o => rw [ex a o q] at z; cases z
  rw [List.append_nil]
  refine ⟨P, fa (one x) fz, .obj true n [] [] :: ds, _, _, ⟨.ref x, vs, one x, fz, rfl, ⟨x, dx, [], fz, rfl, upd_same, rfl, ⟨rfl, rfl⟩, (fa_fz _).symm⟩, repL_h r, rfl⟩, e.trans ex, fun a => by rw [fa_fz]; exact one_le a, fun a z => ?_, hf, fun v H' P' U S' st rd rs => ?_⟩
  · rw [fa_fz] at z; rw [one_pos z]; exact none_of e hx
  · rw [fa_fz] at st
    obtain ⟨y, ys, T1, T2, e1, r1, _, e2⟩ := rs
    cases e1
    have hH : Ex H H' := fun a o z => st.fr a o (by unfold one; rw [if_neg (ne_of_none z hx)]) (ex a o z)
    have old : ∀ a, (0 < one x a ∨ upd (upd H dx (.own x)) x (.ins (c.cl n) dx []) a = none) → H a = none := fun a z => by
      rcases z with z | z
      · rw [one_pos z]; exact hx
      · exact back a z
    refine ⟨rd.1, q (.ref x) H' P' T1 ⟨st.p0, hH, st.ph, fun a z => ?_⟩ r1 (fun a => ?_) fun a z => ⟨old a (st.ns a ?_), st.out a ?_⟩⟩
    · rcases st.np a z with z | z | z
      · exact .inl z
      · exact .inr (old a (.inl z))
      · exact .inr (old a (.inr z))
    · have := st.le a; rw [e2] at this; simp only [fa] at this; omega
    · rw [e2]; simp only [fa]; omega
    · rw [e2]; simp only [fa]; omega
theorem mk_split {n : Nat} {ρ : List D} {d : D} (h : mkM n F ms ρ = some d) : ∃ ds ds', ms ρ = some ds ∧ frzL ds = true ∧ F (.obj true n [] [] :: ds) = some (.non, d :: ds') := by
  unfold mkM at h
  cases e1 : ms ρ with
  | none => rw [e1] at h; cases h
  | some ds =>
    rw [e1, Option.bind_some] at h
    split at h
    · rename_i hz
      cases e2 : F (.obj true n [] [] :: ds) with
      | none => rw [e2] at h; cases h
      | some r =>
        rw [e2, Option.bind_some] at h
        split at h
        · cases h; exact ⟨ds, _, rfl, hz, e2⟩
        · cases h
    · cases h
theorem f_mk (n : Nat) (M : Mk X.K (cl n) f) (G : FnOk X.prog X.w X.K X.mg X.base CX k f fd ps (spD ⟨X.K, cl⟩ F)) (hr : Room (k + 1) X.A) (hg : Gl X x) (hm : X.mg x = some (.ref (cl n))) (hb : Binds X.K fd ps []) (hx : Passes CX X XE)
    (ha : PA X (e :: es) (tAR ⟨X.K, cl⟩ E ms)) (hdb : (x == ("__debug__" : Str)) = false := by decide) (he : starEach (e :: es) X.env = (false, eval e X.env) :: starEach es X.env := by rfl) (hpl : (backTo pos (starEach es X.env)).any (·.1) = false := by rfl) :
    PE X (.Call (.Name x p) (e :: es) [] pos) (tF ⟨X.K, cl⟩ E (mkM n F ms)) := PE_imp (pe_make M G hr hg hm hb .nil hx ha hdb he hpl) fun σ H Q ⟨P, S, T, ρ, d, w, h, q⟩ => by
  obtain ⟨ds, ds', e1, hz, e2⟩ := mk_split h
  refine ⟨P, S, T, ρ, ds, w, e1, fun vs H1 P1 U1 g1 r1 => ?_⟩
  have := RepL.frz0 ds vs U1 hz r1
  subst this
  exact mk_run g1.ph r1 e2 (q.grow g1)
theorem f_mk0 (n : Nat) (M : Mk X.K (cl n) f) (G : FnOk X.prog X.w X.K X.mg X.base CX k f fd ps (spD ⟨X.K, cl⟩ F)) (hr : Room (k + 1) X.A) (hg : Gl X x) (hm : X.mg x = some (.ref (cl n))) (hb : Binds X.K fd ps []) (hx : Passes CX X XE)
    (hdb : (x == ("__debug__" : Str)) = false := by decide) : PE X (.Call (.Name x p) [] [] pos) (tF ⟨X.K, cl⟩ E (mkM n F nilM)) := PE_imp (pe_make0 M G hr hg hm hb .nil hx hdb) fun σ H Q ⟨P, S, T, ρ, d, w, h, q⟩ => by
  obtain ⟨ds, ds', e1, hz, e2⟩ := mk_split h
  cases e1
  exact mk_run (c := ⟨X.K, cl⟩) (ds := []) (vs := []) w.ph (show RepL ⟨X.K, cl⟩ P H [] [] fz from ⟨rfl, rfl⟩) e2 q
end

/-! ### places -/
structure Lens where
  get : List D → Option D
  put : List D → D → List D
structure Loc (c : LC) (L : Lens) (P H : Hp) (σ : L2.St) (ρ : List D) (S : FP) (v : V) (d : D) (Sd R : FP) : Prop where
  sum : ∀ a, S a = Sd a + R a
  rep : Rep c P H d v Sd
  put : ∀ (P2 H2 : Hp) (d2 : D) (S2 : FP), Ex P P2 → (∀ a o, 0 < R a → H a = some o → H2 a = some o) → Rep c P2 H2 d2 v S2 → RepE c P2 H2 (L.put ρ d2) σ (fa S2 R)
theorem Loc.grow {c : LC} {L : Lens} {P H P' H' : Hp} {σ : L2.St} {ρ : List D} {S : FP} {v : V} {d : D} {Sd R : FP} (l : Loc c L P H σ ρ S v d Sd R) (g : Gr P H P' H') : Loc c L P' H' σ ρ S v d Sd R :=
  ⟨l.sum, l.rep.gr g, fun P2 H2 d2 S2 e k r => l.put P2 H2 d2 S2 (g.p.trans e) (fun a o h1 h2 => k a o h1 (g.h a o h2)) r⟩
def tPl (c : LC) (E : En) (L : Lens) : TE := fun σ H Q => ∃ P S T ρ d, Wd c E P S T σ H ρ ∧ L.get ρ = some d ∧ ∀ v Sd R, Loc c L P H σ ρ S v d Sd R → Q v H
theorem RepE.focus {c : LC} {P H : Hp} : ∀ {ρ : List D} {σ : L2.St} {S : FP} {i : Nat} {d : D}, RepE c P H ρ σ S → ρ[i]? = some d → notGone d = true → ∃ v Sd R, σ[i]? = some (some v) ∧ Rep c P H d v Sd ∧ (∀ a, S a = Sd a + R a) ∧
    ∀ (P2 H2 : Hp) (d2 : D) (S2 : FP), Ex P P2 → (∀ a o, 0 < R a → H a = some o → H2 a = some o) → Rep c P2 H2 d2 v S2 → RepE c P2 H2 (ρ.set i d2) σ (fa S2 R)
  | [], [], _, i, d, _, e, _ => by simp at e
  | d0 :: ρ, v0 :: σ, S, 0, d, ⟨T, U, r, rs, f⟩, e, n => by
    simp at e; subst e
    cases v0 with
    | none => rw [r.1] at n; cases n
    | some v =>
      exact ⟨v, T, U, rfl, r, fun a => by rw [f]; rfl, fun P2 H2 d2 S2 e1 k r2 => ⟨S2, U, r2, rs.mono e1 ρ σ U k, rfl⟩⟩
  | d0 :: ρ, v0 :: σ, S, i + 1, d, ⟨T, U, r, rs, f⟩, e, n => by
    obtain ⟨v, Sd, R, h1, h2, h3, h4⟩ := RepE.focus (i := i) (d := d) rs (by simpa using e) n
    refine ⟨v, Sd, fa T R, by simpa using h1, h2, fun a => by have := h3 a; rw [f]; simp only [fa]; omega, fun P2 H2 d2 S2 e1 k r2 => ?_⟩
    refine ⟨T, fa S2 R, RepO.mono e1 (fun a o z1 z2 => k a o (by simp only [fa]; omega) z2) r, h4 P2 H2 d2 S2 e1 (fun a o z1 z2 => k a o (by simp only [fa]; omega) z2) r2, by funext a; simp only [fa]; omega⟩
  | [], _ :: _, _, _, _, h, _, _ => h.elim
  | _ :: _, [], _, _, _, h, _, _ => h.elim
theorem RepL.focus {c : LC} {P H : Hp} : ∀ {ds : List D} {xs : List V} {S : FP} {i : Nat} {d : D}, RepL c P H ds xs S → ds[i]? = some d → ∃ v Sd R, xs[i]? = some v ∧ Rep c P H d v Sd ∧ (∀ a, S a = Sd a + R a) ∧
    ∀ (P2 H2 : Hp) (d2 : D) (y : V) (S2 : FP), Ex P P2 → (∀ a o, 0 < R a → H a = some o → H2 a = some o) → Rep c P2 H2 d2 y S2 → RepL c P2 H2 (ds.set i d2) (xs.set i y) (fa S2 R)
  | [], xs, S, i, d, h, e => by simp at e
  | d0 :: ds, xs, S, 0, d, ⟨y, ys, T, U, e1, r, rs, f⟩, e => by
    simp at e; subst e
    subst e1
    exact ⟨y, T, U, rfl, r, fun a => by rw [f]; rfl, fun P2 H2 d2 z S2 e1 k r2 => ⟨z, ys, S2, U, rfl, r2, RepL.mono e1 ds ys U k rs, rfl⟩⟩
  | d0 :: ds, xs, S, i + 1, d, ⟨y, ys, T, U, e1, r, rs, f⟩, e => by
    subst e1
    obtain ⟨v, Sd, R, h1, h2, h3, h4⟩ := RepL.focus (i := i) (d := d) rs (by simpa using e)
    refine ⟨v, Sd, fa T R, by simpa using h1, h2, fun a => by have := h3 a; rw [f]; simp only [fa]; omega, fun P2 H2 d2 z S2 e1 k r2 => ?_⟩
    refine ⟨y, ys.set i z, T, fa S2 R, rfl, Rep.mono e1 d0 y T (fun a o z1 z2 => k a o (by simp only [fa]; omega) z2) r, h4 P2 H2 d2 z S2 e1 (fun a o z1 z2 => k a o (by simp only [fa]; omega) z2) r2, by funext a; simp only [fa]; omega⟩
def vL (i : Nat) : Lens := ⟨fun ρ => (ρ[i]?).bind fun d => if notGone d = true then some d else none, fun ρ d => ρ.set i d⟩
theorem vL_get {i : Nat} {ρ : List D} {d : D} (h : (vL i).get ρ = some d) : ρ[i]? = some d ∧ notGone d = true := by
  unfold vL at h
  cases e : ρ[i]? with
  | none => simp [e] at h
  | some d1 =>
    simp only [e, Option.bind_some] at h
    split at h
    · rename_i hn; cases h; exact ⟨rfl, hn⟩
    · cases h
/-- the place of a field -/
def fIx (f : Str) : List Str → Option Nat
  | [] => none
  | g :: gs => if f = g then some 0 else (fIx f gs).map (· + 1)
def fldL (n : Nat) (f : Str) (L : Lens) : Lens := ⟨fun ρ => (L.get ρ).bind fun d => match d with
    | .obj _ k fs ds => if k = n then (fIx f fs).bind fun j => (ds[j]?).bind fun d => if notGone d = true then some d else none else none
    | _ => none,
  fun ρ d2 => match L.get ρ with
    | some (.obj o k fs ds) => match fIx f fs with
      | some j => L.put ρ (.obj o k fs (ds.set j d2))
      | none => ρ
    | _ => ρ⟩
theorem fIx_lookup {f : Str} : ∀ {fs : List Str} {xs : List V} {j : Nat}, fIx f fs = some j → fs.length = xs.length → (fs.zip xs).lookup f = xs[j]?
  | [], xs, j, h, n => by cases h
  | g :: gs, [], j, h, n => by simp at n
  | g :: gs, x :: xs, j, h, n => by
    unfold fIx at h
    by_cases e : f = g
    · rw [if_pos e] at h; cases h
      have : (f == g) = true := by rw [e]; exact beq_self_eq_true _
      simp [List.lookup, this]
    · rw [if_neg e] at h
      cases z : fIx f gs with
      | none => rw [z] at h; cases h
      | some j' =>
        rw [z] at h; cases h
        have : (f == g) = false := beq_eq_false_iff_ne.mpr e
        simp [List.lookup, this, fIx_lookup z (by simpa using n)]
theorem obj_heap {c : LC} {P H : Hp} (e : Ex P H) {o : Bool} {k : Nat} {fs : List Str} {ds : List D} {v : V} {U : FP} (r : Rep c P H (.obj o k fs ds) v U) : ∃ a dx xs T Z, v = .ref a ∧ H a = some (.ins (c.cl k) dx (fs.zip xs)) ∧ fs.length = xs.length ∧ RepL c P H ds xs T ∧ (∀ b, U b = Z b + T b) ∧
    ∀ (P2 H2 : Hp) (ds2 : List D) (T2 : FP), Ex P P2 → (∀ b u, 0 < Z b → H b = some u → H2 b = some u) → RepL c P2 H2 ds2 xs T2 → Rep c P2 H2 (.obj o k fs ds2) v (fa Z T2) := by
  cases o with
  | true =>
    obtain ⟨a, dx, xs, T, e1, h, n, rl, f⟩ := r
    exact ⟨a, dx, xs, T, one a, e1, h, n, rl, fun b => by rw [f]; rfl, fun P2 H2 ds2 T2 _ hk r2 => ⟨a, dx, xs, T2, e1, hk a _ (by simp [one]) h, n, r2, rfl⟩⟩
  | false =>
    obtain ⟨a, dx, xs, e1, h, n, rl⟩ := r
    exact ⟨a, dx, xs, U, fz, e1, e _ _ h, n, rl, fun b => by simp [fz], fun P2 H2 ds2 T2 hp _ r2 => ⟨a, dx, xs, e1, hp _ _ h, n, by rw [fz_fa]; exact r2⟩⟩
section
variable {X : Cx} {cl : Nat → Addr} {E : En} {e a b o : Expr} {es : List Expr} {pos p apos : Pos} {m : RM} {L : Lens}
theorem p_v (i : Nat) {x : Str} (hN : X.N[i]? = some x := by rfl) (hv : Vis X.env.scope x := by first | exact Or.inl rfl | exact Or.inr (Or.inl rfl) | exact Or.inr (Or.inr rfl)) (hd : (x == ("__debug__" : Str)) = false := by decide)
    (hcd : (x == ("__classdict__" : Str)) = false := by decide) : PE X (.Name x pos) (tPl ⟨X.K, cl⟩ E (vL i)) := PE_imp (pe_var hN hv hd hcd) fun σ H Q ⟨P, S, T, ρ, d, w, hg, q⟩ => by
  obtain ⟨h1, h2⟩ := vL_get hg
  obtain ⟨v, Sd, R, k1, k2, k3, k4⟩ := w.env.focus h1 h2
  exact ⟨v, k1, q v Sd R ⟨k3, k2, k4⟩⟩
theorem fld_split {n : Nat} {f : Str} {ρ : List D} {d : D} (h : (fldL n f L).get ρ = some d) : ∃ o fs ds j, L.get ρ = some (.obj o n fs ds) ∧ fIx f fs = some j ∧ ds[j]? = some d ∧ notGone d = true ∧ ∀ d2, (fldL n f L).put ρ d2 = L.put ρ (.obj o n fs (ds.set j d2)) := by
  unfold fldL at h
  cases e1 : L.get ρ with
  | none => simp [e1] at h
  | some d0 =>
    cases d0 with
    | obj o k fs ds =>
      simp only [e1, Option.bind_some] at h
      split at h
      · rename_i hk
        subst hk
        cases e2 : fIx f fs with
        | none => rw [e2] at h; cases h
        | some j =>
          rw [e2, Option.bind_some] at h
          cases e3 : ds[j]? with
          | none => rw [e3] at h; cases h
          | some d1 =>
            rw [e3, Option.bind_some] at h
            split at h
            · rename_i hn
              cases h
              exact ⟨o, fs, ds, j, rfl, e2, e3, hn, fun d2 => by simp [fldL, e1, e2]⟩
            · cases h
      · cases h
    | _ => simp [e1] at h
theorem p_fld (n : Nat) {f : Str} (hc : Cls X.K (cl n)) (hn : NoAttr X.K (cl n) f) (he : PE X e (tPl ⟨X.K, cl⟩ E L)) (hb : attributeBase e f X.env (eval e X.env) = eval e X.env := by rfl) : PE X (.Attribute e f pos) (tPl ⟨X.K, cl⟩ E (fldL n f L)) := PE_imp (pe_fld he hb) fun σ H Q ⟨P, S, T, ρ, d, w, hg, q⟩ => by
  obtain ⟨o, fs, ds, j, h1, h2, h3, h4, h5⟩ := fld_split hg
  refine ⟨P, S, T, ρ, _, w, h1, fun v Sd R l => ?_⟩
  obtain ⟨a, dx, xs, T1, Z, e1, hh, nl, rl, hz, hput⟩ := obj_heap w.ph l.rep
  obtain ⟨y, S1, R1, k1, k2, k3, k4⟩ := rl.focus h3
  refine ⟨a, cl n, dx, _, y, e1, hh, hc, hn, by rw [fIx_lookup h2 nl]; exact k1, q y S1 (fa (fa Z R1) R) ⟨fun b => ?_, k2, fun P2 H2 d2 S2 ep kr r2 => ?_⟩⟩
  · have := l.sum b; have := hz b; have := k3 b; simp only [fa]; omega
  · rw [h5]
    have rl2 := k4 P2 H2 d2 y S2 ep (fun b u z1 z2 => kr b u (by simp only [fa]; omega) z2) r2
    have e2 : xs.set j y = xs := by
      apply List.ext_getElem?
      intro t
      by_cases ht : t = j
      · subst ht; rw [k1, List.getElem?_set_self (List.getElem?_eq_some_iff.mp k1).1]
      · rw [List.getElem?_set_ne (Ne.symm ht)]
    rw [e2] at rl2
    have := l.put P2 H2 _ _ ep (fun b u z1 z2 => kr b u (by simp only [fa]; omega) z2) (hput P2 H2 _ _ ep (fun b u z1 z2 => kr b u (by simp only [fa]; omega) z2) rl2)
    have e3 : fa (fa Z (fa S2 R1)) R = fa S2 (fa (fa Z R1) R) := by funext b; simp only [fa]; omega
    rw [e3] at this
    exact this
/-- what stands at a place, looked at -/
theorem r_pl (h : PE X e (tPl ⟨X.K, cl⟩ E L)) : PE X e (tR ⟨X.K, cl⟩ E L.get) := PE_imp h fun σ H Q ⟨P, S, T, ρ, d, w, hm, q⟩ => ⟨P, S, T, ρ, d, w, hm, fun v Sd R l => q v H P Sd (.refl w.ph) l.rep⟩
end
end LI
namespace LI
open PySem L2

section
variable {c : LC} {E : En} {P P' : Hp} {S T : FP} {σ : L2.St} {H H' : Hp} {ρ ρ' : List D}
/-- behind a call that had Sd -/
theorem Wd.through {Sd R V S2 U : FP} (w : Wd c E P S T σ H ρ) (hS : ∀ a, S a = Sd a + R a) (st : Stp P Sd H P' V H') (henv : RepE c P' H' ρ' σ S2) (h2 : ∀ a, S2 a + U a ≤ V a + R a) (hU : ∀ a, 0 < U a → H' a ≠ none) : Wd c E P' S2 (fa T U) σ H' ρ' := by
  have there : ∀ a, 0 < R a + T a → H a ≠ none ∧ Sd a = 0 := fun a h => by
    have l := w.le a
    have s := hS a
    refine ⟨?_, by omega⟩
    by_cases hT : 0 < T a
    · exact w.th a hT
    · exact RepE.there ρ σ S w.env a (by omega)
  have apart : ∀ a, 0 < V a → R a + T a = 0 := fun a h => by
    rcases st.ns a h with z | z
    · have l := w.le a; have s := hS a; omega
    · rcases Nat.eq_zero_or_pos (R a + T a) with q | q
      · exact q
      · exact absurd z (there a q).1
  have stay : ∀ a, 0 < R a + T a → P' a = none := fun a h => by
    cases q : P' a with
    | none => rfl
    | some o =>
      rcases st.np a (by rw [q]; simp) with z | z | z
      · exact absurd (w.out a (by have := hS a; omega)) z
      · have := (there a h).2; omega
      · exact absurd z (there a h).1
  refine ⟨henv, fun a => ?_, fun a h => ?_, fun a h => ?_, st.ph, w.p0.trans st.p0, fun a o h1 h2 => ?_, fun a h => ?_, fun a h => ?_, w.kp⟩
  · have h2a := h2 a; have le := st.le a; have l := w.le a; have s := hS a
    simp only [fa]
    by_cases hv : 0 < V a
    · have := apart a hv; omega
    · omega
  · simp only [fa] at h
    have h2a := h2 a
    by_cases hv : 0 < V a
    · exact st.out a hv
    · exact stay a (by omega)
  · simp only [fa] at h
    by_cases hT : 0 < T a
    · cases z : H a with
      | none => exact absurd z (w.th a hT)
      | some o => rw [st.fr a o (there a (by omega)).2 z]; simp
    · exact hU a (by omega)
  · refine st.fr a o ?_ (w.fr a o h1 h2)
    rcases Nat.eq_zero_or_pos (Sd a) with z | z
    · exact z
    · rcases w.ns a (by have := hS a; omega) with q | q
      · omega
      · rw [q] at h2; cases h2
  · rcases st.np a h with z | z | z
    · exact w.np a z
    · rcases w.ns a (by have := hS a; omega) with q | q
      · exact .inr (.inl q)
      · exact .inr (.inr q)
    · cases q : E.H0 a with
      | none => exact .inr (.inr rfl)
      | some o =>
        by_cases hs : E.S0 a = 0
        · rw [w.fr a o hs q] at z; cases z
        · exact .inr (.inl (by omega))
  · simp only [fa] at h
    have h2a := h2 a
    by_cases hv : 0 < V a
    · rcases st.ns a hv with z | z
      · exact w.ns a (by have := hS a; omega)
      · cases q : E.H0 a with
        | none => exact .inr rfl
        | some o =>
          by_cases hs : E.S0 a = 0
          · rw [w.fr a o hs q] at z; cases z
          · exact .inl (by omega)
    · exact w.ns a (by have := hS a; omega)
/-- an owned object is written -/
theorem Wd.upd {S2 T2 : FP} {a : Addr} {o : HO} (w : Wd c E P S T σ H ρ) (ha : 0 < S a) (henv : RepE c P (upd H a o) ρ' σ S2) (h : ∀ b, S2 b + T2 b ≤ S b + T b) (ht : ∀ b, T2 b ≤ T b) : Wd c E P S2 T2 σ (L2.upd H a o) ρ' := by
  have hP : P a = none := w.out a (by omega)
  refine ⟨henv, fun b => Nat.le_trans (h b) (w.le b), fun b z => w.out b (Nat.lt_of_lt_of_le z (h b)), fun b z => ?_, fun b u z => ?_, w.p0, fun b u z1 z2 => ?_, w.np, fun b z => w.ns b (Nat.lt_of_lt_of_le z (h b)), w.kp⟩
  · by_cases e : b = a
    · subst e; rw [upd_same]; simp
    · rw [upd_ne e]; exact w.th b (Nat.lt_of_lt_of_le z (ht b))
  · have e : b ≠ a := fun q => by subst q; rw [hP] at z; cases z
    rw [upd_ne e]; exact w.ph b u z
  · have e : b ≠ a := fun q => by
      subst q
      rcases w.ns b (by omega) with y | y
      · omega
      · rw [y] at z2; cases z2
    rw [upd_ne e]; exact w.fr b u z1 z2
end

section
variable {X : Cx} {cl : Nat → Addr} {E : En} {e a b o : Expr} {es : List Expr} {pos p apos : Pos} {m : RM} {ms : AM} {CX : CXT} {k n : Nat} {f C : Addr} {fd : FuncData} {ps : List Str} {F : FM} {XE : XK} {x nm : Str} {L : Lens}
/-! ### methods of own classes -/
def isObjK (n : Nat) (nm : Str) : D → Bool
  | .obj _ k fs _ => decide (k = n) && !fs.contains nm
  | _ => false
def methM (n : Nat) (nm : Str) (L : Lens) (F : FM) (ms : AM) : GM := fun ρ => (L.get ρ).bind fun self => (ms ρ).bind fun ds => if isObjK n nm self = true ∧ frzL ds = true then (F (self :: ds)).bind fun r => match r.2 with | self' :: _ => some (r.1, L.put ρ self') | [] => none else none
theorem lookup_zip_none {nm : Str} : ∀ {fs : List Str} {xs : List V}, fs.contains nm = false → (fs.zip xs).lookup nm = none
  | [], _, _ => rfl
  | _ :: _, [], _ => rfl
  | g :: gs, y :: ys, h => by
    simp only [List.contains_cons, Bool.or_eq_false_iff] at h
    rw [List.zip_cons_cons]
    show (match nm == g with | true => some y | false => List.lookup nm (gs.zip ys)) = none
    rw [h.1]
    exact lookup_zip_none h.2
theorem isObj_v {c : LC} {P H : Hp} (e : Ex P H) {d : D} {v : V} {U : FP} (h : isObjK n nm d = true) (r : Rep c P H d v U) : ∃ a dx fs, v = .ref a ∧ H a = some (.ins (c.cl n) dx fs) ∧ fs.lookup nm = none := by
  cases d with
  | obj o k fs ds =>
    simp only [isObjK, Bool.and_eq_true, decide_eq_true_eq, Bool.not_eq_true'] at h
    obtain ⟨rfl, hn⟩ := h
    obtain ⟨a, dx, xs, T, Z, e1, hh, nl, _⟩ := obj_heap e r
    exact ⟨a, dx, _, e1, hh, lookup_zip_none hn⟩
  | _ => cases h
theorem meth_run (h : tG ⟨X.K, cl⟩ E (methM n nm L F ms) σ H Q) : tMeth (cl n) nm (spD ⟨X.K, cl⟩ F) [] XE (tPl ⟨X.K, cl⟩ E L) (tAR ⟨X.K, cl⟩ E ms) σ H Q := by
  obtain ⟨P, S, T, ρ, d, ρ', w, hm, q⟩ := h
  unfold methM at hm
  cases e1 : L.get ρ with
  | none => rw [e1] at hm; cases hm
  | some self =>
    cases e2 : ms ρ with
    | none => rw [e1, e2] at hm; cases hm
    | some ds =>
      rw [e1, e2, Option.bind_some, Option.bind_some] at hm
      split at hm
      · rename_i hc
        cases e3 : F (self :: ds) with
        | none => rw [e3] at hm; cases hm
        | some r =>
          obtain ⟨d1, rs⟩ := r
          rw [e3, Option.bind_some] at hm
          cases rs with
          | nil => cases hm
          | cons self' rs =>
            cases hm
            refine ⟨P, S, T, ρ, self, w, e1, fun v Sd R l => ?_⟩
            obtain ⟨a, dx, fs, ev, hh, hl⟩ := isObj_v w.ph hc.1 l.rep
            refine ⟨a, dx, fs, ev, hh, hl, P, S, T, ρ, ds, w, e2, fun vs H1 P1 U1 g1 r1 => ?_⟩
            have z := RepL.frz0 ds vs U1 hc.2 r1
            subst z
            have l1 := l.grow g1
            have w1 := w.grow g1
            show spD ⟨X.K, cl⟩ F (v :: (vs ++ [])) H1 Q XE
            rw [List.append_nil]
            refine ⟨P1, fa Sd fz, self :: ds, d1, self' :: rs, ⟨v, vs, Sd, fz, rfl, l1.rep, r1, rfl⟩, g1.ph, fun b => by have := w.le b; have := l.sum b; simp only [fa, fz]; omega, fun b hb => w1.out b (by have := l.sum b; simp only [fa, fz] at hb; omega), e3, fun v2 H2 P2 U S' st rd rl => ?_⟩
            rw [fa_fz] at st
            obtain ⟨y, ys, T1, T2, e4, rself, _, e5⟩ := rl
            cases e4
            have henv := l1.put P2 H2 self' T1 st.p0 (fun b u hb hu => st.fr b u (by have := w.le b; have := l.sum b; omega) hu) rself
            have w2 := w1.through l1.sum st henv (U := U) (fun b => by rw [e5]; simp only [fa]; omega) (Rep.there d1 v2 U rd)
            exact q v2 H2 P2 _ U w2 (g1.p.trans st.p0) rd fun b u hb hu => st.fr b u (by have := w.le b; have := l.sum b; omega) (g1.h b u hu)
      · cases hm
theorem g_meth {pl : Sem Bool} (n : Nat) (he : PE X o (tPl ⟨X.K, cl⟩ E L)) (c : Cls X.K (cl n)) (hm : Meth X.K (cl n) nm f) (G : FnOk X.prog X.w X.K X.mg X.base CX k f fd ps (spD ⟨X.K, cl⟩ F)) (hr : Room k X.A) (hb : Binds X.K fd ps []) (hx : Passes CX X XE) (ha : PA X (e :: es) (tAR ⟨X.K, cl⟩ E ms))
    (hst : starEach (e :: es) X.env = (false, eval e X.env) :: starEach es X.env := by rfl) (hpl : (backTo pos (starEach es X.env)).any (·.1) = false := by rfl)
    (ht : eval (.Call (.Attribute o nm apos) (e :: es) [] pos) X.env = (do
      let ov ← eval o X.env
      standAt apos.atName
      let (f, first) ← holding [ov] (getMethod ov nm pl)
      callWith pos f first (backTo pos (starEach (e :: es) X.env)) (backToKw pos (keywordEach [] X.env))) := by rfl) :
    PE X (.Call (.Attribute o nm apos) (e :: es) [] pos) (tG ⟨X.K, cl⟩ E (methM n nm L F ms)) := PE_imp (pe_meth he c hm G hr hb .nil hx ha hst hpl ht) fun _ _ _ h => meth_run h
theorem g_meth0 {pl : Sem Bool} (n : Nat) (he : PE X o (tPl ⟨X.K, cl⟩ E L)) (c : Cls X.K (cl n)) (hm : Meth X.K (cl n) nm f) (G : FnOk X.prog X.w X.K X.mg X.base CX k f fd ps (spD ⟨X.K, cl⟩ F)) (hr : Room k X.A) (hb : Binds X.K fd ps []) (hx : Passes CX X XE)
    (ht : eval (.Call (.Attribute o nm apos) [] [] pos) X.env = (do
      let ov ← eval o X.env
      standAt apos.atName
      let (f, first) ← holding [ov] (getMethod ov nm pl)
      callWith pos f first (backTo pos (starEach [] X.env)) (backToKw pos (keywordEach [] X.env))) := by rfl) :
    PE X (.Call (.Attribute o nm apos) [] [] pos) (tG ⟨X.K, cl⟩ E (methM n nm L F nilM)) := PE_imp (pe_meth0 he c hm G hr hb .nil hx ht) fun σ H Q h => by
  have h2 := meth_run (XE := XE) h
  obtain ⟨P, S, T, ρ, d, w, hg, q⟩ := h2
  refine ⟨P, S, T, ρ, d, w, hg, fun v Sd R l => ?_⟩
  obtain ⟨a, dx, fs, ev, hh, hl, P2, S2, T2, ρ2, ds, w2, hn, q2⟩ := q v Sd R l
  cases hn
  exact ⟨a, dx, fs, ev, hh, hl, q2 [] H P2 fz (.refl w2.ph) ⟨rfl, rfl⟩⟩
/-- a look by a method (a flat answer, or all of it fixed) -/
def lookM (n : Nat) (nm : Str) (mo : RM) (F : FM) (ms : AM) : RM := fun ρ => (mo ρ).bind fun self => (ms ρ).bind fun ds => if isObjK n nm self = true then (F (iceL (self :: ds))).bind fun r => if frzL (self :: ds) = true ∨ isFlat r.1 = true then some r.1 else none else none
theorem look_run {mo : RM} (h : tF ⟨X.K, cl⟩ E (lookM n nm mo F ms) σ H Q) : tMeth (cl n) nm (spD ⟨X.K, cl⟩ F) [] XE (tR ⟨X.K, cl⟩ E mo) (tAR ⟨X.K, cl⟩ E ms) σ H Q := by
  obtain ⟨P, S, T, ρ, d, w, hm, q⟩ := h
  unfold lookM at hm
  cases e1 : mo ρ with
  | none => rw [e1] at hm; cases hm
  | some self =>
    cases e2 : ms ρ with
    | none => rw [e1, e2] at hm; cases hm
    | some ds =>
      rw [e1, e2, Option.bind_some, Option.bind_some] at hm
      split at hm
      · rename_i hc
        cases e3 : F (iceL (self :: ds)) with
        | none => rw [e3] at hm; cases hm
        | some r =>
          rw [e3, Option.bind_some] at hm
          split at hm
          · rename_i hz
            cases hm
            refine ⟨P, S, T, ρ, self, w, e1, fun v H1 P1 U1 g1 r1 => ?_⟩
            obtain ⟨a, dx, fs, ev, hh, hl⟩ := isObj_v g1.ph hc r1
            refine ⟨a, dx, fs, ev, hh, hl, P1, S, T, ρ, ds, w.grow g1, e2, fun vs H2 P2 U2 g2 r2 => ?_⟩
            show spD ⟨X.K, cl⟩ F (v :: (vs ++ [])) H2 Q XE
            rw [List.append_nil]
            exact spD_view (ds' := r.2) g2.ph (show RepL ⟨X.K, cl⟩ P2 H2 (self :: ds) (v :: vs) (fa U1 U2) from ⟨v, vs, U1, U2, rfl, r1.gr g2, r2, rfl⟩) e3 hz (q.grow (g1.trans g2))
          · cases hm
      · cases hm
theorem f_look {pl : Sem Bool} {mo : RM} (n : Nat) (he : PE X o (tR ⟨X.K, cl⟩ E mo)) (c : Cls X.K (cl n)) (hm : Meth X.K (cl n) nm f) (G : FnOk X.prog X.w X.K X.mg X.base CX k f fd ps (spD ⟨X.K, cl⟩ F)) (hr : Room k X.A) (hb : Binds X.K fd ps []) (hx : Passes CX X XE) (ha : PA X (e :: es) (tAR ⟨X.K, cl⟩ E ms))
    (hst : starEach (e :: es) X.env = (false, eval e X.env) :: starEach es X.env := by rfl) (hpl : (backTo pos (starEach es X.env)).any (·.1) = false := by rfl)
    (ht : eval (.Call (.Attribute o nm apos) (e :: es) [] pos) X.env = (do
      let ov ← eval o X.env
      standAt apos.atName
      let (f, first) ← holding [ov] (getMethod ov nm pl)
      callWith pos f first (backTo pos (starEach (e :: es) X.env)) (backToKw pos (keywordEach [] X.env))) := by rfl) :
    PE X (.Call (.Attribute o nm apos) (e :: es) [] pos) (tF ⟨X.K, cl⟩ E (lookM n nm mo F ms)) := PE_imp (pe_meth he c hm G hr hb .nil hx ha hst hpl ht) fun _ _ _ h => look_run h
theorem f_look0 {pl : Sem Bool} {mo : RM} (n : Nat) (he : PE X o (tR ⟨X.K, cl⟩ E mo)) (c : Cls X.K (cl n)) (hm : Meth X.K (cl n) nm f) (G : FnOk X.prog X.w X.K X.mg X.base CX k f fd ps (spD ⟨X.K, cl⟩ F)) (hr : Room k X.A) (hb : Binds X.K fd ps []) (hx : Passes CX X XE)
    (ht : eval (.Call (.Attribute o nm apos) [] [] pos) X.env = (do
      let ov ← eval o X.env
      standAt apos.atName
      let (f, first) ← holding [ov] (getMethod ov nm pl)
      callWith pos f first (backTo pos (starEach [] X.env)) (backToKw pos (keywordEach [] X.env))) := by rfl) :
    PE X (.Call (.Attribute o nm apos) [] [] pos) (tF ⟨X.K, cl⟩ E (lookM n nm mo F nilM)) := PE_imp (pe_meth0 he c hm G hr hb .nil hx ht) fun σ H Q h => by
  obtain ⟨P, S, T, ρ, d, w, hg, q⟩ := look_run (XE := XE) h
  refine ⟨P, S, T, ρ, d, w, hg, fun v H1 P1 U1 g1 r1 => ?_⟩
  obtain ⟨a, dx, fs, ev, hh, hl, P2, S2, T2, ρ2, ds, w2, hn, q2⟩ := q v H1 P1 U1 g1 r1
  cases hn
  exact ⟨a, dx, fs, ev, hh, hl, q2 [] H1 P2 fz (.refl w2.ph) ⟨rfl, rfl⟩⟩

/-! ### lists at places -/
/-- the list at a place becomes another: its items' footprint T1 before, T2 behind -/
theorem loc_lst {c : LC} {P H : Hp} {S T U : FP} {ρ : List D} {v : V} {ds : List D} {Sd R : FP} (w : Wd c E P S (fa T U) σ H ρ) (l : Loc c L P H σ ρ S v (.lst true ds) Sd R) : ∃ a xs T1, v = .ref a ∧ H a = some (.lst xs) ∧ RepL c P H ds xs T1 ∧ (∀ b, Sd b = one a b + T1 b) ∧
    ∀ (ys : List V) (es : List D) (T2 U2 : FP), RepL c P (upd H a (.lst ys)) es ys T2 → (∀ b, T2 b + U2 b ≤ T1 b + U b) → Wd c E P (fa (fa (one a) T2) R) (fa T U2) σ (upd H a (.lst ys)) (L.put ρ (.lst true es)) := by
  obtain ⟨a, xs, T1, e1, hh, rl, f⟩ := l.rep
  have hSd : ∀ b, Sd b = one a b + T1 b := fun b => by rw [f]; rfl
  refine ⟨a, xs, T1, e1, hh, rl, hSd, fun ys es T2 U2 r2 hb => ?_⟩
  have ha : 0 < S a := by have := l.sum a; have := hSd a; simp [one] at *; omega
  have henv := l.put P (upd H a (.lst ys)) (.lst true es) (fa (one a) T2) (.refl _) (fun b u hb hu => by
    have hne : b ≠ a := fun z => by
      subst z
      have := w.le b; have := l.sum b; have := hSd b
      simp [one] at *; omega
    rw [upd_ne hne]; exact hu) ⟨a, ys, T2, e1, upd_same, r2, rfl⟩
  have wT : Wd c E P S (fa T U) σ H ρ := w
  -- the part aside may give to the slots
  have hP : P a = none := w.out a (by omega)
  refine ⟨henv, fun b => ?_, fun b z => ?_, fun b z => ?_, fun b u z => ?_, w.p0, fun b u z1 z2 => ?_, w.np, fun b z => ?_, w.kp⟩
  · have := w.le b; have := l.sum b; have := hSd b; have := hb b; simp only [fa] at *; omega
  · refine w.out b ?_; have := l.sum b; have := hSd b; have := hb b; simp only [fa] at *; omega
  · by_cases e : b = a
    · subst e; rw [upd_same]; simp
    · rw [upd_ne e]
      by_cases hT : 0 < fa T U b
      · exact w.th b hT
      · refine RepE.there ρ σ S w.env b ?_
        have := l.sum b; have := hSd b; have := hb b; simp only [fa] at *; omega
  · have e : b ≠ a := fun q => by subst q; rw [hP] at z; cases z
    rw [upd_ne e]; exact w.ph b u z
  · have e : b ≠ a := fun q => by
      subst q
      rcases w.ns b (by omega) with y | y
      · omega
      · rw [y] at z2; cases z2
    rw [upd_ne e]; exact w.fr b u z1 z2
  · refine w.ns b ?_; have := l.sum b; have := hSd b; have := hb b; simp only [fa] at *; omega
theorem wd_keep {c : LC} {P H : Hp} {S T : FP} {ρ : List D} {a : Addr} {u : HO} (w : Wd c E P S T σ H ρ) (ha : 0 < S a) : ∀ b o, 0 < T b → H b = some o → upd H a u b = some o := fun b o h1 h2 => by
  have : b ≠ a := fun z => by subst z; have := w.le b; omega
  rw [upd_ne this]; exact h2
def appL (L : Lens) (m : RM) : GM := fun ρ => (L.get ρ).bind fun d => (m ρ).bind fun y => match d with | .lst true ds => if ds.length < LIM then some (.non, L.put ρ (.lst true (ds ++ [y]))) else none | _ => none
theorem repL_h' {c : LC} {P H H' : Hp} {ds : List D} {xs : List V} {S : FP} (r : RepL c P H ds xs S) (k : ∀ a o, 0 < S a → H a = some o → H' a = some o) : RepL c P H' ds xs S := RepL.mono (.refl _) ds xs S k r
theorem g_app (he : PE X o (tPl ⟨X.K, cl⟩ E L)) (ha : PE X e (tF ⟨X.K, cl⟩ E m))
    (hbase : attributeBase o "append" X.env (eval o X.env) = eval o X.env := by rfl)
    (hfew : ((backTo pos (starEach [e] X.env)).all (fun x => !x.1) && (backToKw pos (keywordEach [] X.env)).all (fun x => x.1.isSome)
      && decide ([e].length + ([] : List Keyword).length + (if ([] : List Keyword).isEmpty then 0 else 1) < 30)) = true := by rfl)
    (hline : (apos.endLine == pos.line) = true := by rfl) (hs : starEach [e] X.env = (false, eval e X.env) :: starEach [] X.env := by rfl) : PE X (.Call (.Attribute o "append" apos) [e] [] pos) (tG ⟨X.K, cl⟩ E (appL L m)) := by
  refine PE_imp (pe_bm PySem.F.plainAttrs_list PySem.F.slot_list_append PySem.F.type_list_append mt_append he (pa_cons ha pa_nil hs) hbase hfew hline hs) fun σ H Q ⟨P, S, T, ρ, d, ρ', w, hm, q⟩ => ?_
  unfold appL at hm
  cases e1 : L.get ρ with
  | none => rw [e1] at hm; cases hm
  | some d0 =>
    cases e2 : m ρ with
    | none => rw [e1, e2] at hm; cases hm
    | some y =>
      rw [e1, e2, Option.bind_some, Option.bind_some] at hm
      split at hm
      · rename_i ds
        split at hm
        · rename_i hl
          cases hm
          refine ⟨P, S, T, ρ, _, w, e1, fun v Sd R l => ?_⟩
          obtain ⟨a0, xs0, T0, e0, h0, _⟩ := l.rep
          refine ⟨by rw [e0]; exact .inl ⟨rfl, xs0, .inl (.inl h0)⟩, P, S, T, ρ, y, w, e2, fun z H1 P1 U1 g1 r1 u1 u2 => ?_⟩
          have w1 := w.aside g1 u1 u2 (Rep.there y z U1 r1)
          obtain ⟨a, xs, T1, ev, hh, rl, hS, k⟩ := loc_lst w1 (l.grow g1)
          have hl' : xs.length < sizeLine := by rw [← rl.length]; exact lim_lt hl
          have ha0 : 0 < S a := by have := l.sum a; have := hS a; simp [one] at *; omega
          refine ⟨a, xs, z, ev, rfl, hh, hl', ?_⟩
          have keepT : ∀ b u, 0 < T1 b + U1 b → H1 b = some u → upd H1 a (.lst (xs ++ [z])) b = some u := fun b u hb hu => by
            have : b ≠ a := fun q => by
              subst q
              have := w1.le b; have := l.sum b; have := hS b
              simp [one, fa] at *; omega
            rw [upd_ne this]; exact hu
          have r2 : RepL ⟨X.K, cl⟩ P1 (upd H1 a (.lst (xs ++ [z]))) (ds ++ [y]) (xs ++ [z]) (fa T1 (fa U1 fz)) :=
            RepL.append (repL_h' rl fun b u hb hu => keepT b u (by omega) hu) ⟨z, [], U1, fz, rfl, Rep.mono (.refl _) y z U1 (fun b u hb hu => keepT b u (by omega) hu) r1, ⟨rfl, rfl⟩, rfl⟩
          have w2 := k _ _ _ fz r2 fun b => by simp only [fa, fz]; omega
          exact q .non _ P1 _ fz w2 g1.p ⟨rfl, rfl⟩ fun b u hb hu => by
            have : b ≠ a := fun z2 => by subst z2; have := w.le b; omega
            rw [upd_ne this]; exact g1.h b u hu
        · cases hm
      · cases hm
end
end LI
namespace LI
open PySem L2

section
variable {X : Cx} {cl : Nat → Addr} {E : En} {e a b o : Expr} {es : List Expr} {pos pos' p apos : Pos} {m : RM} {g : GM} {ms : AM} {n : Nat} {f nm : Str} {L : Lens} {σ : L2.St}
/-- what is owned at a place becomes another thing at its address -/
theorem loc_own {c : LC} {P H : Hp} {S T U : FP} {ρ : List D} {v : V} {d : D} {Sd R T1 : FP} {a : Addr} (w : Wd c E P S (fa T U) σ H ρ) (l : Loc c L P H σ ρ S v d Sd R) (hSd : ∀ b, Sd b = one a b + T1 b) (hu : ∀ b, 0 < T1 b + U b → H b ≠ none) :
    ∀ (o : HO) (d2 : D) (T2 U2 : FP), Rep c P (upd H a o) d2 v (fa (one a) T2) → (∀ b, T2 b + U2 b ≤ T1 b + U b) → Wd c E P (fa (fa (one a) T2) R) (fa T U2) σ (upd H a o) (L.put ρ d2) := by
  intro o d2 T2 U2 r2 hb
  have ha : 0 < S a := by have := l.sum a; have := hSd a; simp [one] at *; omega
  have henv := l.put P (upd H a o) d2 (fa (one a) T2) (.refl _) (fun b u hb hu => by
    have hne : b ≠ a := fun z => by
      subst z
      have := w.le b; have := l.sum b; have := hSd b
      simp [one] at *; omega
    rw [upd_ne hne]; exact hu) r2
  have hP : P a = none := w.out a (by omega)
  refine ⟨henv, fun b => ?_, fun b z => ?_, fun b z => ?_, fun b u z => ?_, w.p0, fun b u z1 z2 => ?_, w.np, fun b z => ?_, w.kp⟩
  · have := w.le b; have := l.sum b; have := hSd b; have := hb b; simp only [fa] at *; omega
  · refine w.out b ?_; have := l.sum b; have := hSd b; have := hb b; simp only [fa] at *; omega
  · by_cases e : b = a
    · subst e; rw [upd_same]; simp
    · rw [upd_ne e]
      by_cases hT : 0 < fa T U b
      · exact w.th b hT
      · refine hu b ?_
        have := hb b; simp only [fa] at *; omega
  · have e : b ≠ a := fun q => by subst q; rw [hP] at z; cases z
    rw [upd_ne e]; exact w.ph b u z
  · have e : b ≠ a := fun q => by
      subst q
      rcases w.ns b (by omega) with y | y
      · omega
      · rw [y] at z2; cases z2
    rw [upd_ne e]; exact w.fr b u z1 z2
  · refine w.ns b ?_; have := l.sum b; have := hSd b; have := hb b; simp only [fa] at *; omega
/-- the rest is kept when a is written -/
theorem keep_own {c : LC} {P H : Hp} {S T : FP} {ρ : List D} {v : V} {d : D} {Sd R T1 : FP} {a : Addr} (w : Wd c E P S T σ H ρ) (l : Loc c L P H σ ρ S v d Sd R) (hSd : ∀ b, Sd b = one a b + T1 b) (o : HO) : ∀ b u, 0 < T1 b + T b → H b = some u → upd H a o b = some u := fun b u hb hu => by
  have : b ≠ a := fun q => by
    subst q
    have := w.le b; have := l.sum b; have := hSd b
    simp [one] at *; omega
  rw [upd_ne this]; exact hu

/-! ### o.f = e -/
def putFD (f : Str) (d : D) (fs : List Str) (ds : List D) : D × List Str := match fIx f fs with
  | some j => (.lst true (ds.set j d), fs)
  | none => (.lst true (ds ++ [d]), fs ++ [f])
def setFD (n : Nat) (f : Str) (d : D) : D → Option D
  | .obj true k fs ds => if k = n ∧ fs.length < 1000 then some (match fIx f fs with | some j => .obj true k fs (ds.set j d) | none => .obj true k (fs ++ [f]) (ds ++ [d])) else none
  | _ => none
def fldM (n : Nat) (f : Str) (L : Lens) (g : GM) : SM := fun ρ => (g ρ).bind fun r => (L.get r.2).bind fun self => (setFD n f r.1 self).map fun self' => (.nx, L.put r.2 self')
theorem fIx_lt {f : Str} : ∀ {fs : List Str} {j : Nat}, fIx f fs = some j → j < fs.length
  | [], j, h => by cases h
  | g :: gs, j, h => by
    unfold fIx at h
    by_cases e : f = g
    · rw [if_pos e] at h; cases h; simp
    · rw [if_neg e] at h
      cases z : fIx f gs with
      | none => rw [z] at h; cases h
      | some j' => rw [z] at h; cases h; have := fIx_lt z; simp; omega
theorem putF_some {f : Str} {y : V} : ∀ {fs : List Str} {xs : List V} {j : Nat}, fIx f fs = some j → fs.length = xs.length → putF f y (fs.zip xs) = fs.zip (xs.set j y)
  | [], xs, j, h, n => by cases h
  | g :: gs, [], j, h, n => by simp at n
  | g :: gs, x :: xs, j, h, n => by
    unfold fIx at h
    by_cases e : f = g
    · rw [if_pos e] at h; cases h
      rw [List.zip_cons_cons]
      show (if g = f then (g, y) :: gs.zip xs else _) = _
      rw [if_pos e.symm]; rfl
    · rw [if_neg e] at h
      cases z : fIx f gs with
      | none => rw [z] at h; cases h
      | some j' =>
        rw [z] at h; cases h
        rw [List.zip_cons_cons]
        show (if g = f then _ else (g, x) :: putF f y (gs.zip xs)) = _
        rw [if_neg (fun q => e q.symm), putF_some z (by simpa using n)]; rfl
theorem putF_none {f : Str} {y : V} : ∀ {fs : List Str} {xs : List V}, fIx f fs = none → fs.length = xs.length → putF f y (fs.zip xs) = (fs ++ [f]).zip (xs ++ [y])
  | [], xs, h, n => by
    have : xs = [] := List.length_eq_zero_iff.mp n.symm
    subst this; rfl
  | g :: gs, [], h, n => by simp at n
  | g :: gs, x :: xs, h, n => by
    unfold fIx at h
    by_cases e : f = g
    · rw [if_pos e] at h; cases h
    · rw [if_neg e] at h
      have z : fIx f gs = none := by cases z : fIx f gs with | none => rfl | some j' => rw [z] at h; cases h
      rw [List.zip_cons_cons]
      show (if g = f then _ else (g, x) :: putF f y (gs.zip xs)) = _
      rw [if_neg (fun q => e q.symm), putF_none z (by simpa using n)]; rfl
theorem s_fld (n : Nat) {value : Expr} (hc : Cls X.K (cl n)) (hn : NoAttr X.K (cl n) f) (he : PE X value (tG ⟨X.K, cl⟩ E g)) (ho : PE X o (tPl ⟨X.K, cl⟩ E L)) (hs : swapsWith value (some (.Attribute o f pos')) pos.line X.env = pure false := by rfl) :
    PS X (.Assign [.Attribute o f pos'] value pos) (tS ⟨X.K, cl⟩ E (fldM n f L g)) := PS_imp (ps_fld ho he hs) fun D σ H ⟨P, S, ρ, fl, ρ', w, hm, q⟩ => by
  unfold fldM at hm
  cases eg : g ρ with
  | none => rw [eg] at hm; cases hm
  | some r =>
    obtain ⟨d, ρ1⟩ := r
    rw [eg, Option.bind_some] at hm
    cases el : L.get ρ1 with
    | none => rw [el] at hm; cases hm
    | some self =>
      rw [el, Option.bind_some] at hm
      cases ef : setFD n f d self with
      | none => rw [ef] at hm; cases hm
      | some self' =>
        rw [ef] at hm
        cases hm
        refine g_run w eg fun y H1 P1 S1 U w1 e1 r1 => ⟨P1, S1, U, ρ1, self, w1, el, fun v Sd R l => ?_⟩
        unfold setFD at ef
        split at ef
        · rename_i k fs ds
          split at ef
          · rename_i hk
            obtain ⟨rfl, hl⟩ := hk
            cases ef
            obtain ⟨a, dx, xs, T1, ev, hh, nl, rl, hf⟩ := l.rep
            have hS : ∀ b, Sd b = one a b + T1 b := fun b => by rw [hf]; rfl
            have w1' : Wd ⟨X.K, cl⟩ E P1 S1 (fa fz U) σ H1 ρ1 := by rw [fz_fa]; exact w1
            refine ⟨a, cl k, dx, _, ev, hh, hc, hn, by rw [List.length_zip]; omega, ?_⟩
            have kp := fun o => keep_own w1 l hS o
            have hu : ∀ b, 0 < T1 b + U b → H1 b ≠ none := fun b hb => by
              by_cases hU : 0 < U b
              · exact w1.th b hU
              · exact RepL.there ds xs T1 rl b (by omega)
            cases ej : fIx f fs with
            | some j =>
              have hj : j < xs.length := by
                have := fIx_lt ej
                omega
              obtain ⟨x0, hx0⟩ : ∃ x0, ds[j]? = some x0 := ⟨_, List.getElem?_eq_getElem (by rw [rl.length]; exact hj)⟩
              obtain ⟨v0, S0, R0, k1, k2, k3, k4⟩ := rl.focus hx0
              rw [putF_some ej nl]
              have rnew := k4 P1 (upd H1 a (.ins (cl k) dx (fs.zip (xs.set j y)))) d y U (.refl _) (fun b u hb hu => kp _ b u (by have := k3 b; omega) hu) (Rep.mono (.refl _) d y U (fun b u hb hu => kp _ b u (by omega) hu) r1)
              have w2 := loc_own w1' l hS hu (.ins (cl k) dx (fs.zip (xs.set j y))) (.obj true k fs (ds.set j d)) (fa U R0) fz ⟨a, dx, _, fa U R0, ev, upd_same, by rw [List.length_set]; exact nl, rnew, rfl⟩ (fun b => by have := k3 b; simp only [fa, fz]; omega)
              rw [fa_fz] at w2
              simp only [ej] at q
              exact q σ _ P1 _ w2 e1
            | none =>
              rw [putF_none ej nl]
              have rnew : RepL ⟨X.K, cl⟩ P1 (upd H1 a (.ins (cl k) dx ((fs ++ [f]).zip (xs ++ [y])))) (ds ++ [d]) (xs ++ [y]) (fa T1 (fa U fz)) :=
                RepL.append (repL_h' rl fun b u hb hu => kp _ b u (by omega) hu) ⟨y, [], U, fz, rfl, Rep.mono (.refl _) d y U (fun b u hb hu => kp _ b u (by omega) hu) r1, ⟨rfl, rfl⟩, rfl⟩
              have w2 := loc_own w1' l hS hu (.ins (cl k) dx ((fs ++ [f]).zip (xs ++ [y]))) (.obj true k (fs ++ [f]) (ds ++ [d])) (fa T1 (fa U fz)) fz ⟨a, dx, _, _, ev, upd_same, by simp [nl], rnew, rfl⟩ (fun b => by simp only [fa, fz]; omega)
              rw [fa_fz] at w2
              simp only [ej] at q
              exact q σ _ P1 _ w2 e1
          · cases ef
        · cases ef

/-! ### xs.extend(ys), the list at a slot -/
def extS (i : Nat) (g : GM) : GM := fun ρ => match ρ[i]? with
  | some (.lst true _) => (g ρ).bind fun r => match r.1, r.2[i]? with
    | .lst _ ys, some (.lst true ds) => if frzL ys = true ∧ ds.length + ys.length ≤ LIM then some (.non, r.2.set i (.lst true (ds ++ ys))) else none
    | _, _ => none
  | _ => none
theorem loc_v {c : LC} {P H : Hp} {S T : FP} {ρ : List D} {i : Nat} {d : D} {v : V} (w : Wd c E P S T σ H ρ) (h : ρ[i]? = some d) (hn : notGone d = true) (hv : σ[i]? = some (some v)) : ∃ Sd R, Loc c (vL i) P H σ ρ S v d Sd R := by
  obtain ⟨v', Sd, R, k1, k2, k3, k4⟩ := w.env.focus h hn
  rw [hv] at k1
  cases k1
  exact ⟨Sd, R, k3, k2, k4⟩
theorem g_ext (i : Nat) {x : Str} {px : Pos} (he : PE X e (tG ⟨X.K, cl⟩ E g)) (hN : X.N[i]? = some x := by rfl) (hv : Vis X.env.scope x := by first | exact Or.inl rfl | exact Or.inr (Or.inl rfl) | exact Or.inr (Or.inr rfl))
    (hd : (x == ("__debug__" : Str)) = false := by decide) (hcd : (x == ("__classdict__" : Str)) = false := by decide)
    (hbase : attributeBase (.Name x px) "extend" X.env (eval (.Name x px) X.env) = eval (.Name x px) X.env := by rfl)
    (hfew : ((backTo pos (starEach [e] X.env)).all (fun x => !x.1) && (backToKw pos (keywordEach [] X.env)).all (fun x => x.1.isSome)
      && decide ([e].length + ([] : List Keyword).length + (if ([] : List Keyword).isEmpty then 0 else 1) < 30)) = true := by rfl)
    (hline : (apos.endLine == pos.line) = true := by rfl) (hs : starEach [e] X.env = (false, eval e X.env) :: starEach [] X.env := by rfl) : PE X (.Call (.Attribute (.Name x px) "extend" apos) [e] [] pos) (tG ⟨X.K, cl⟩ E (extS i g)) := by
  refine PE_imp (pe_bm PySem.F.plainAttrs_list PySem.F.slot_list_extend PySem.F.type_list_extend mt_extend (pe_var hN hv hd hcd) (pa_cons he pa_nil hs) hbase hfew hline hs) fun σ H Q ⟨P, S, T, ρ, d, ρ', w, hm, q⟩ => ?_
  unfold extS at hm
  split at hm
  · rename_i ds0 hi
    cases eg : g ρ with
    | none => rw [eg] at hm; cases hm
    | some r =>
      obtain ⟨dy, ρ1⟩ := r
      rw [eg, Option.bind_some] at hm
      split at hm
      · rename_i o' ys ds h1 h2
        split at hm
        · rename_i hl
          cases hm
          obtain ⟨v, Sd0, R0, hv0, r0, _, _⟩ := w.env.focus hi rfl
          obtain ⟨a0, xs0, T0, ev0, h0, _⟩ := r0
          refine ⟨v, hv0, by rw [ev0]; exact .inl ⟨rfl, xs0, .inl (.inl h0)⟩, P, S, T, ρ, dy, ρ1, w, eg, fun z H1 P1 S1 U1 w1 ep r1 kT => ?_⟩
          replace h1 : dy = .lst o' ys := h1
          subst h1
          obtain ⟨Sd, R, l⟩ := loc_v w1 (show ρ1[i]? = some _ from h2) rfl hv0
          obtain ⟨a, xs, T1, ev, hh, rl, hf⟩ := l.rep
          have hS : ∀ b, Sd b = one a b + T1 b := fun b => by rw [hf]; rfl
          obtain ⟨p2, zs, ez, hz, rz⟩ := lst_heap0 w1.ph r1 hl.1
          refine ⟨a, p2, xs, zs, ev, by rw [ez], hh, hz, by rw [← rl.length, ← rz.length]; exact lim_le hl.2, ?_⟩
          have kp := fun o => keep_own w1 l hS o
          have hu : ∀ b, 0 < T1 b + U1 b → H1 b ≠ none := fun b hb => by
            by_cases hU : 0 < U1 b
            · exact w1.th b (by simp only [fa]; omega)
            · exact RepL.there ds xs T1 rl b (by omega)
          have rnew : RepL ⟨X.K, cl⟩ P1 (upd H1 a (.lst (xs ++ zs))) (ds ++ ys) (xs ++ zs) (fa T1 fz) :=
            RepL.append (repL_h' rl fun b u hb hu => kp _ b u (by omega) hu) (repL_h rz)
          have w2 := loc_own w1 l hS hu (.lst (xs ++ zs)) (.lst true (ds ++ ys)) (fa T1 fz) fz ⟨a, _, _, ev, upd_same, rnew, rfl⟩ (fun b => by simp only [fa, fz]; omega)
          exact q .non _ P1 _ fz w2 ep ⟨rfl, rfl⟩ fun b u hb hu => kp _ b u (by simp only [fa]; omega) (kT b u hb hu)
        · cases hm
      · cases hm
  · cases hm

/-! ### sep.join(xs) -/
def strsOf : List D → Option (List (List Nat))
  | [] => some []
  | .str s :: ds => (strsOf ds).map fun ss => s :: ss
  | _ :: _ => none
def joinL (sep : List Nat) : List (List Nat) → List Nat
  | [] => []
  | [s] => s
  | s :: ss => s ++ sep ++ joinL sep ss
def joinD : D → D → Option D
  | .str sep, .lst _ ds => (strsOf ds).bind fun ss => if (ss.map List.length).sum + ss.length * sep.length ≤ LIM then some (.str (joinL sep ss)) else none
  | _, _ => none
theorem strs_v {c : LC} {P H : Hp} : ∀ {ds : List D} {xs : List V} {U : FP} {ss : List (List Nat)}, strsOf ds = some ss → RepL c P H ds xs U → xs = (ss.map fun s => (⟨s.toArray⟩ : Str)).map V.str
  | [], xs, U, is, h, r => by cases h; exact r.1
  | .str i :: ds, xs, U, is, h, ⟨y, ys, T, T2, e1, r, rs, _⟩ => by
    unfold strsOf at h
    cases z : strsOf ds with
    | none => rw [z] at h; cases h
    | some js => rw [z] at h; cases h; rw [e1, r.1, strs_v z rs]; rfl
  | .gone :: _, _, _, _, h, _ | .non :: _, _, _, _, h, _ | .bl _ :: _, _, _, _, h, _ | .int _ :: _, _, _, _, h, _ | .scr _ :: _, _, _, _, h, _ | .kst _ :: _, _, _, _, h, _ | .tup _ :: _, _, _, _, h, _ | .lst .. :: _, _, _, _, h, _ | .dK .. :: _, _, _, _, h, _ | .dT .. :: _, _, _, _, h, _ | .obj .. :: _, _, _, _, h, _ => by simp [strsOf] at h
end
end LI
namespace LI
open PySem L2

section
variable {X : Cx} {cl : Nat → Addr} {E : En} {e a b o : Expr} {es : List Expr} {pos pos' p apos : Pos} {m mo : RM} {g : GM} {ms : AM} {n : Nat} {f nm : Str} {L : Lens} {σ : L2.St}
/-- a view of what is fixed, as a thing of one's own -/
def frM (m : RM) : RM := fun ρ => (m ρ).bind fun d => if frz d = true then some d else none
theorem f_fr (h : PE X e (tR ⟨X.K, cl⟩ E m)) : PE X e (tF ⟨X.K, cl⟩ E (frM m)) := PE_imp h fun σ H Q ⟨P, S, T, ρ, d, w, hm, q⟩ => by
  unfold frM at hm
  cases hd : m ρ with
  | none => rw [hd] at hm; cases hm
  | some d1 =>
    rw [hd, Option.bind_some] at hm
    split at hm
    · rename_i hf
      cases hm
      refine ⟨P, S, T, ρ, d, w, hd, fun v H' P' U g r => ?_⟩
      have z := Rep.frz0 d v U hf r
      subst z
      exact q v H' P' fz g r (fun _ => Nat.zero_le _) fun a z => by simp [fz] at z
    · cases hm

/-! ### sep.join(xs) -/
def joinD2 : D → D → Option D
  | .str sep, .lst _ ds => (strsOf ds).bind fun ss => if (ss.map List.length).sum + ss.length * sep.length ≤ LIM then some (.str (TL.joinL sep ss)) else none
  | _, _ => none
theorem f_join (ho : PE X o (tR ⟨X.K, cl⟩ E mo)) (he : PE X e (tR ⟨X.K, cl⟩ E m)) (hs : starEach [e] X.env = [(false, eval e X.env)] := by rfl) (hbase : attributeBase o "join" X.env (eval o X.env) = eval o X.env := by rfl) (hline : (apos.endLine == pos.line) = true := by rfl) :
    PE X (.Call (.Attribute o "join" apos) [e] [] pos) (tF ⟨X.K, cl⟩ E (m2 joinD2 mo m)) := PE_imp (pe_join ho he hs hbase hline) fun σ H Q ⟨P, S, T, ρ, d, w, hm, q⟩ => by
  obtain ⟨da, db, ea, eb, h⟩ := m2_split hm
  unfold joinD2 at h
  split at h
  · rename_i sep o' ds
    cases z : strsOf ds with
    | none => rw [z] at h; cases h
    | some ss =>
      rw [z, Option.bind_some] at h
      split at h
      · rename_i hl
        cases h
        refine ⟨P, S, T, ρ, _, w, ea, fun v H1 P1 U1 g1 r1 => ⟨⟨_, r1.1⟩, P1, S, T, ρ, _, w.grow g1, eb, fun y H2 P2 U2 g2 r2 => ?_⟩⟩
        obtain ⟨p, xs, T', ey, hh, rl, _⟩ := lst_heap g2.ph r2
        have hx := strs_v z rl
        subst hx
        refine ⟨_, p, ss.map SX.S, r1.1, by rw [ey], .inl (.inl (.inl hh)), ?_, ?_⟩
        · have e1 : ((ss.map SX.S).map fun x => x.length) = ss.map List.length := SX.lens ss
          rw [e1, List.length_map]
          have e2 : (⟨sep.toArray⟩ : Str).length = sep.length := str_len sep
          rw [e2]
          exact Nat.le_trans hl (by decide)
        · have e3 : Txt.join ⟨sep.toArray⟩ (ss.map SX.S) = ⟨(TL.joinL sep ss).toArray⟩ := SX.join_S sep ss
          rw [e3]
          exact (q.grow (g1.trans g2)).flat g2.ph ⟨rfl, rfl⟩
      · cases h
  · cases h
end

/-! ### the law -/
def spLaw (K : PySem.W.Frag) : Sp := fun vs H Q _ => ∃ (a : Addr) (ns : List Int), vs = [.ref a] ∧ SqL K H a (ns.map V.int) ∧ ns.length ≤ 63 ∧ (∀ z ∈ ns, Builtin.Int.intBits z ≤ 1048576) ∧ ∀ H', Q (.bl true) H'
theorem law_ok {P : Program} {w : World} {K : PySem.W.Frag} {mg : Str → Option Value} {base : Heap} {CX : CXT} {k : Nat} {f : Addr} {fd : FuncData} {ps : List Str} {F : FM} {cl : Nat → Addr} (G : FnOk P w K mg base CX k f fd ps (spD ⟨K, cl⟩ F))
    (h : ∀ ns : List Int, ns.length ≤ 63 → (∀ z ∈ ns, Builtin.Int.intBits z ≤ 1048576) → ∃ ds', F [.scr ns] = some (.bl true, ds')) : FnOk P w K mg base CX k f fd ps (spLaw K) :=
  G.imp fun vs H Q E ⟨a, ns, e, hs, hl, hb, q⟩ => by
    obtain ⟨ds', hF⟩ := h ns hl hb
    refine ⟨H, fz, [.scr ns], .bl true, ds', ⟨.ref a, [], fz, fz, e, ⟨a, rfl, hs, rfl⟩, ⟨rfl, rfl⟩, (fa_fz fz).symm⟩, .refl _, fun _ => Nat.zero_le _, fun a z => by simp [fz] at z, hF, fun v H' P' U S' st rd _ => ?_⟩
    rw [rd.1]
    exact q H'
end LI
namespace LI
open PySem L2

section
variable {X : Cx} {cl : Nat → Addr} {E : En} {e a b o : Expr} {es : List Expr} {pos pos' p apos : Pos} {m mo ma mb : RM} {g : GM} {ms : AM} {n : Nat} {nm x : Str} {L : Lens} {σ : L2.St} {CX : CXT} {k : Nat} {fa' : Addr} {fd : FuncData} {ps : List Str} {F : FM} {XE : XK}
/-! ### passing views: enough for an answer that is flat -/
def VQ (c : LC) (P H : Hp) (d : D) (Q : VK) : Prop := ∀ v H' P' U, Gr P H P' H' → Rep c H' H' d v U → Q v H'
def tV (c : LC) (E : En) (m : RM) : TE := fun σ H Q => ∃ P S T ρ d, Wd c E P S T σ H ρ ∧ m ρ = some d ∧ VQ c P H d Q
theorem v_r (h : PE X e (tR ⟨X.K, cl⟩ E m)) : PE X e (tV ⟨X.K, cl⟩ E m) := PE_imp h fun σ H Q ⟨P, S, T, ρ, d, w, hm, q⟩ => ⟨P, S, T, ρ, d, w, hm, fun v H' P' U g r => q v H' P' U g (Rep.mono g.ph d v U (fun _ _ _ h => h) r)⟩
theorem FQ.flatV {c : LC} {P H : Hp} {d : D} {Q : VK} (hp : Ex P H) (hd : isFlat d = true) (h : FQ c P H d Q) : FQ c H H d Q := fun v H' P' U g r _ _ =>
  h v H' P fz ⟨.refl _, g.h, hp.trans g.h, fun _ z => .inl z⟩ (flat_any (c := c) hd r) (fun _ => Nat.zero_le _) fun a z => by simp [fz] at z
/-- f gives flat things alone -/
def FlatOp (f : D → D → Option D) : Prop := ∀ a b d, f a b = some d → isFlat d = true
theorem op2_runW {r : R2} {f : D → D → Option D} (hf : Op2 ⟨X.K, cl⟩ r f) (hz : FlatOp f) {H : Hp} {Q : VK} (h : tF ⟨X.K, cl⟩ E (m2 f ma mb) σ H Q) : tOp r (tV ⟨X.K, cl⟩ E ma) (tV ⟨X.K, cl⟩ E mb) σ H Q := by
  obtain ⟨P, S, T, ρ, d, w, hm, q⟩ := h
  obtain ⟨da, db, ea, eb, hm⟩ := m2_split hm
  refine ⟨P, S, T, ρ, da, w, ea, fun x H1 P1 U1 g1 r1 => ⟨P1, S, T, ρ, db, w.grow g1, eb, fun y H2 P2 U2 g2 r2 => ?_⟩⟩
  exact hf H2 H2 (.refl _) _ _ _ _ _ _ _ hm (Rep.mono g2.h da x U1 (fun a o _ h => g2.h a o h) r1) r2 Q ((q.grow (g1.trans g2)).flatV g2.ph (hz _ _ _ hm))
theorem v_cmp {op : CmpOp} {r : R2} {f : D → D → Option D} (ho : OpR X (compareOp op) r) (hf : Op2 ⟨X.K, cl⟩ r f) (hz : FlatOp f) (ha : PE X a (tV ⟨X.K, cl⟩ E ma)) (hb : PE X b (tV ⟨X.K, cl⟩ E mb)) (hm : behindInMarks op b = false) : PE X (.Compare a [op] [b] pos) (tF ⟨X.K, cl⟩ E (m2 f ma mb)) :=
  PE_imp (pe_cmpR ho ha hb hm) fun _ _ _ h => op2_runW hf hz h
theorem tv_cmp {op : CmpOp} {r : R2} {f : D → D → Option D} (ho : OpR X (compareOp op) r) (hf : Op2 ⟨X.K, cl⟩ r f) (hz : FlatOp f) (ha : PE X a (tV ⟨X.K, cl⟩ E ma)) (hb : PE X b (tV ⟨X.K, cl⟩ E mb)) (hm : behindInMarks op b = false) : PT X (.Compare a [op] [b] pos) (tT ⟨X.K, cl⟩ E (bM (m2 f ma mb))) :=
  t_test (pt_cmpR ho ha hb hm) fun _ _ _ h => op2_runW hf hz h
theorem flat_eq : FlatOp eqD := fun a b d h => by
  unfold eqD at h
  cases z : eqB a b with
  | none => rw [z] at h; cases h
  | some k => rw [z] at h; cases h; rfl
theorem flat_ne : FlatOp neD := fun a b d h => by
  unfold neD at h
  cases z : eqB a b with
  | none => rw [z] at h; cases h
  | some k => rw [z] at h; cases h; rfl
/-- a call whose answer is looked at alone -/
def callVM (F : FM) (ms : AM) : RM := fun ρ => (ms ρ).bind fun ds => (F (iceL ds)).map (·.1)
theorem spD_viewV {c : LC} {F : FM} {P H : Hp} {ds : List D} {vs : List V} {U : FP} {d : D} {ds' : List D} {Q : VK} {E : XK} (e : Ex P H) (r : RepL c P H ds vs U) (hf : F (iceL ds) = some (d, ds')) (q : VQ c P H d Q) : spD c F vs H Q E := by
  refine ⟨coldP U P H, fz, iceL ds, d, ds', RepL.ice (coldP_p e) ds vs U (fun a o h1 h2 => by unfold coldP; rw [if_pos h1]; exact h2) r, coldP_h e, fun _ => Nat.zero_le _, fun a h => by simp [fz] at h, hf, fun v H' P' U2 S' st rd rs => ?_⟩
  have hH : Ex H H' := fun a o h => st.fr a o rfl h
  exact q v H' P U2 ⟨.refl _, hH, e.trans hH, fun a h => .inl h⟩ (Rep.mono st.ph d v U2 (fun _ _ _ h => h) rd)
theorem callV_split {ρ : List D} {d : D} (h : callVM F ms ρ = some d) : ∃ ds ds', ms ρ = some ds ∧ F (iceL ds) = some (d, ds') := by
  unfold callVM at h
  cases e1 : ms ρ with
  | none => rw [e1] at h; cases h
  | some ds =>
    rw [e1, Option.bind_some] at h
    cases e2 : F (iceL ds) with
    | none => rw [e2] at h; cases h
    | some r => rw [e2] at h; cases h; exact ⟨ds, r.2, rfl, e2⟩
theorem v_call (G : FnOk X.prog X.w X.K X.mg X.base CX k fa' fd ps (spD ⟨X.K, cl⟩ F)) (hr : Room k X.A) (hg : Gl X x) (hm : X.mg x = some (.ref fa')) (hk : PySem.W.keepIn X.K (.ref fa') = true) (hb : Binds X.K fd ps []) (hx : Passes CX X XE)
    (ha : PA X (e :: es) (tAR ⟨X.K, cl⟩ E ms)) (hdb : (x == ("__debug__" : Str)) = false := by decide) (he : starEach (e :: es) X.env = (false, eval e X.env) :: starEach es X.env := by rfl) (hpl : (backTo pos (starEach es X.env)).any (·.1) = false := by rfl) :
    PE X (.Call (.Name x p) (e :: es) [] pos) (tV ⟨X.K, cl⟩ E (callVM F ms)) := PE_imp (pe_call G hr hg hm hk hb .nil hx ha hdb he hpl) fun σ H Q ⟨P, S, T, ρ, d, w, h, q⟩ => by
  obtain ⟨ds, ds', e1, e2⟩ := callV_split h
  refine ⟨P, S, T, ρ, ds, w, e1, fun vs H1 P1 U1 g1 r1 => ?_⟩
  show spD ⟨X.K, cl⟩ F (vs ++ []) H1 Q XE
  rw [List.append_nil]
  exact spD_viewV g1.ph r1 e2 fun v H' P' U g r => q v H' P' U (g1.trans g) r
/-- a module's constant -/
theorem f_gl {v : V} (d : D) (h : ∃ u, X.mg x = some u ∧ RelV v u) (hr : ∀ P H, Ex P H → Rep ⟨X.K, cl⟩ P H d v fz) (hg : Gl X x := by rfl) (hd : (x == ("__debug__" : Str)) = false := by decide) : PE X (.Name x pos) (tF ⟨X.K, cl⟩ E (kM d)) := by
  obtain ⟨u, h1, h2⟩ := h
  exact f_glob d hg h1 h2 hr hd
theorem f_glS (s : List Nat) (h : ∃ u, X.mg x = some u ∧ RelV (.str ⟨s.toArray⟩) u) (hg : Gl X x := by rfl) (hd : (x == ("__debug__" : Str)) = false := by decide) : PE X (.Name x pos) (tF ⟨X.K, cl⟩ E (kM (.str s))) := f_gl (.str s) h (fun _ _ _ => ⟨rfl, rfl⟩) hg hd
theorem f_glI (i : Int) (h : ∃ u, X.mg x = some u ∧ RelV (.int i) u) (hg : Gl X x := by rfl) (hd : (x == ("__debug__" : Str)) = false := by decide) : PE X (.Name x pos) (tF ⟨X.K, cl⟩ E (kM (.int i))) := f_gl (.int i) h (fun _ _ _ => ⟨rfl, rfl⟩) hg hd
theorem f_isi' {ty : String} {b0 : Expr} (ha : PE X a (tR ⟨X.K, cl⟩ E ma)) (hb : PE X b0 (tC (.ty ty))) (hm : X.mg "isinstance" = none) (hg : Gl X "isinstance" := by rfl)
    (hs1 : starEach [a, b0] X.env = (false, eval a X.env) :: starEach [b0] X.env := by rfl) (hs2 : starEach [b0] X.env = (false, eval b0 X.env) :: starEach [] X.env := by rfl) (hpl : (backTo pos (starEach [b0] X.env)).any (·.1) = false := by rfl) : PE X (.Call (.Name "isinstance" p) [a, b0] [] pos) (tF ⟨X.K, cl⟩ E (isiM ty ma)) :=
  f_isi hg hm (by decide +kernel) ha hb (by decide) (by decide) hs1 hs2 hpl
end
end LI
namespace LI
open PySem L2

/-! ### out of a place -/
def mvM (L : Lens) : GM := fun ρ => (L.get ρ).bind fun d => some (d, L.put ρ .gone)
def iceAt (i : Nat) (ρ : List D) : List D := match ρ[i]? with
  | some d => ρ.set i (ice d)
  | none => ρ
def iceM (i : Nat) (m : SM) : SM := fun ρ => (m ρ).map fun r => match r.1 with
  | .nx => (.nx, iceAt i r.2)
  | f => (f, r.2)
section
variable {X : Cx} {cl : Nat → Addr} {E : En} {e a b tg : Expr} {pos : Pos} {L : Lens} {m ma mb : RM}
theorem g_mv (h : PE X e (tPl ⟨X.K, cl⟩ E L)) : PE X e (tG ⟨X.K, cl⟩ E (mvM L)) := PE_imp h fun σ H Q ⟨P, S, T, ρ, d, ρ', w, hm, q⟩ => by
  unfold mvM at hm
  cases hd : L.get ρ with
  | none => rw [hd] at hm; cases hm
  | some d1 =>
    rw [hd] at hm
    cases hm
    refine ⟨P, S, T, ρ, d, w, hd, fun v Sd R l => ?_⟩
    have henv := l.put P H .gone fz (.refl P) (fun _ _ _ h => h) rfl
    refine q v H P (fa fz R) Sd ?_ (.refl P) l.rep (fun _ _ _ h => h)
    have hs := l.sum
    refine ⟨henv, fun x => ?_, fun x hx => ?_, fun x hx => ?_, w.ph, w.p0, w.fr, w.np, fun x hx => ?_, w.kp⟩
    · have := w.le x; have := hs x; simp only [fa, fz] at *; omega
    · exact w.out x (by have := hs x; simp only [fa, fz] at *; omega)
    · by_cases z : 0 < T x
      · exact w.th x z
      · exact Rep.there d v Sd l.rep x (by simp only [fa] at hx; omega)
    · exact w.ns x (by have := hs x; simp only [fa, fz] at *; omega)
theorem s_doc {x : Str} {j} {p p' : Pos} : PS X (.Expr (.Constant (.str x) j p) p') (tS ⟨X.K, cl⟩ E skipM) := PS_imp ps_doc fun D σ H ⟨P, S, ρ, fl, ρ', w, hm, q⟩ => by
  cases hm
  exact q σ H P S w (.refl _)
theorem RepE.iceAt {c : LC} {P H : Hp} : ∀ {ρ : List D} {σ : St} {S : FP} (i : Nat), RepE c P H ρ σ S → ∃ (U R : FP), (∀ a, S a = U a + R a) ∧ (∀ a, 0 < U a → H a ≠ none) ∧
    ∀ (P2 H2 : Hp), Ex P P2 → (∀ a o, 0 < U a → H a = some o → P2 a = some o) → (∀ a o, 0 < R a → H a = some o → H2 a = some o) → RepE c P2 H2 (LI.iceAt i ρ) σ R
  | [], [], S, i, h => ⟨fz, S, fun a => by simp [fz], fun a p => by simp [fz] at p, fun P2 H2 _ _ _ => h⟩
  | d0 :: ρ, v0 :: σ, S, 0, ⟨T, U, r, rs, f⟩ => ⟨T, U, fun a => by rw [f]; rfl, r.there, fun P2 H2 e k1 k2 => by
      refine ⟨fz, U, ?_, rs.mono e ρ σ U k2, by funext a; simp [fa, fz]⟩
      cases v0 with
      | none => obtain ⟨rfl, _⟩ := r; exact ⟨rfl, rfl⟩
      | some v => exact Rep.ice e d0 v T k1 r⟩
  | d0 :: ρ, v0 :: σ, S, i + 1, ⟨T, T2, r, rs, f⟩ => by
    obtain ⟨U, R, h1, h0, h2⟩ := RepE.iceAt i rs
    refine ⟨U, fa T R, fun a => by have := h1 a; rw [f]; simp only [fa]; omega, h0, fun P2 H2 e k1 k2 => ?_⟩
    have := h2 P2 H2 e k1 (fun a o z1 z2 => k2 a o (by simp only [fa]; omega) z2)
    have e2 : LI.iceAt (i + 1) (d0 :: ρ) = d0 :: LI.iceAt i ρ := by
      simp only [LI.iceAt, List.getElem?_cons_succ]
      cases ρ[i]? <;> rfl
    rw [e2]
    exact ⟨T, R, RepO.mono e (fun a o z1 z2 => k2 a o (by simp only [fa]; omega) z2) r, this, rfl⟩
  | [], _ :: _, _, _, h => h.elim
  | _ :: _, [], _, _, h => h.elim
theorem Wd.iceAt {c : LC} {P H : Hp} {S T : FP} {σ : St} {ρ : List D} (w : Wd c E P S T σ H ρ) (i : Nat) : ∃ P' S', Wd c E P' S' T σ H (LI.iceAt i ρ) ∧ Ex P P' := by
  obtain ⟨U, R, h1, h0, h2⟩ := RepE.iceAt i w.env
  have hP : ∀ a, 0 < U a → P a = none := fun a z => w.out a (by have := h1 a; omega)
  have ex : Ex P (fun a => if 0 < U a then H a else P a) := fun a o z => by
    by_cases hu : 0 < U a
    · rw [hP a hu] at z; cases z
    · simp [hu, z]
  refine ⟨fun a => if 0 < U a then H a else P a, R, ⟨h2 _ H ex (fun a o z1 z2 => by simp [z1, z2]) (fun _ _ _ h => h), fun a => ?_, fun a z => ?_, w.th, fun a o z => ?_, w.p0.trans ex, w.fr, fun a z => ?_, fun a z => w.ns a (by have := h1 a; omega), w.kp⟩, ex⟩
  · have := w.le a; have := h1 a; omega
  · have l := w.le a; have s := h1 a
    have hu : ¬ 0 < U a := by omega
    simp only [hu, if_false]
    exact w.out a (by omega)
  · by_cases hu : 0 < U a
    · simpa [hu] using z
    · exact w.ph a o (by simpa [hu] using z)
  · by_cases hu : 0 < U a
    · exact .inr (w.ns a (by have := h1 a; omega))
    · exact w.np a (by simpa [hu] using z)
theorem s_seqI (i : Nat) {st : Stmt} {m : SM} (h : PS X st (tS ⟨X.K, cl⟩ E m)) : PS X st (tS ⟨X.K, cl⟩ E (iceM i m)) := PS_imp h fun D σ H ⟨P, S, ρ, fl, ρ', w, hm, q⟩ => by
  unfold iceM at hm
  cases eg : m ρ with
  | none => rw [eg] at hm; cases hm
  | some r =>
    obtain ⟨f1, ρ1⟩ := r
    rw [eg] at hm
    refine ⟨P, S, ρ, f1, ρ1, w, eg, ?_⟩
    cases f1 with
    | nx =>
      cases hm
      intro σ' H' P' S' w' x
      obtain ⟨P2, S2, w2, e2⟩ := w'.iceAt i
      exact q σ' H' P2 S2 w2 (x.trans e2)
    | rt d => cases hm; exact q
    | bk => cases hm; exact q
    | ct => cases hm; exact q

/-! ### more to walk -/
def enumFrom (n : Nat) : List D → List D
  | [] => []
  | d :: ds => .tup [.int (n : Int), d] :: enumFrom (n + 1) ds
def lstD : D → Option (List D)
  | .lst false ds => if frzL ds = true then some ds else none
  | .scr ns => some (ns.map .int)
  | _ => none
def enumM (m : RM) : AM := fun ρ => (m ρ).bind fun d => (lstD d).map (enumFrom 0)
def zipD : List D → List D → List D
  | a :: as, b :: bs => .tup [a, b] :: zipD as bs
  | _, _ => []
def zipM (m1 m2 : RM) : AM := fun ρ => (m1 ρ).bind fun d1 => (m2 ρ).bind fun d2 => (lstD d1).bind fun a => (lstD d2).map fun b => zipD a b
def seqD : D → Option (List D)
  | .tup ds => if frzL ds = true then some ds else none
  | d => lstD d
def revM (m : RM) : AM := fun ρ => (m ρ).bind fun d => (lstD d).map List.reverse
theorem enumFrom_get : ∀ (ds : List D) (n i : Nat) (d : D), ds[i]? = some d → (enumFrom n ds)[i]? = some (.tup [.int ((n + i : Nat) : Int), d])
  | [], n, i, d, h => by simp at h
  | d0 :: ds, n, 0, d, h => by simp at h; subst h; rfl
  | d0 :: ds, n, i + 1, d, h => by
    have := enumFrom_get ds (n + 1) i d (by simpa using h)
    simp only [enumFrom, List.getElem?_cons_succ, this]
    congr 4; omega
theorem enumFrom_len : ∀ (ds : List D) (n : Nat), (enumFrom n ds).length = ds.length
  | [], n => rfl
  | d :: ds, n => by simp [enumFrom, enumFrom_len ds]
theorem zipD_get : ∀ (as bs : List D) (i : Nat) (a b : D), as[i]? = some a → bs[i]? = some b → (zipD as bs)[i]? = some (.tup [a, b])
  | [], bs, i, a, b, h, _ => by simp at h
  | a0 :: as, [], i, a, b, _, h => by simp at h
  | a0 :: as, b0 :: bs, 0, a, b, h1, h2 => by simp at h1 h2; subst h1; subst h2; rfl
  | a0 :: as, b0 :: bs, i + 1, a, b, h1, h2 => by
    simpa [zipD] using zipD_get as bs i a b (by simpa using h1) (by simpa using h2)
theorem zipD_len : ∀ (as bs : List D), (zipD as bs).length = min as.length bs.length
  | [], bs => by simp [zipD]
  | a :: as, [] => by simp [zipD]
  | a :: as, b :: bs => by simp [zipD, zipD_len as bs]
/-- a list that is fixed -/
theorem lst_sq {c : LC} {P H : Hp} {d : D} {ds : List D} {v : V} {U : FP} (h : lstD d = some ds) (r : Rep c P H d v U) : ∃ p xs, v = .ref p ∧ SqL c.K P p xs ∧ ∀ H', RepL c P H' ds xs fz := by
  unfold lstD at h
  split at h
  · split at h
    · rename_i hf
      cases h
      obtain ⟨p, xs, e1, hp, rl⟩ := r
      have z := RepL.frz0 _ xs _ hf rl
      subst z
      exact ⟨p, xs, e1, .inl (.inl hp), fun _ => repL_h rl⟩
    · cases h
  · cases h
    obtain ⟨p, e1, hp, _⟩ := r
    exact ⟨p, _, e1, hp, fun _ => repL_ints _⟩
  · cases h
theorem pair_gr {c : LC} {P H H3 : Hp} {T : Addr} {x y : V} {d1 d2 : D} (ph : Ex P H) (hT : H T = none) (e : H3 = upd H T (.tup [x, y])) (r1 : Rep c P H d1 x fz) (r2 : Rep c P H d2 y fz) :
    ∃ P3, Gr P H P3 H3 ∧ Rep c P3 H3 (.tup [d1, d2]) (.ref T) fz := by
  subst e
  have hP := none_of ph hT
  have eP : Ex P (upd P T (.tup [x, y])) := fun a o z => by rw [upd_ne (ne_of_none z hP)]; exact z
  refine ⟨upd P T (.tup [x, y]), ⟨eP, fun a o z => by rw [upd_ne (ne_of_none z hT)]; exact z, fun a o z => ?_, fun a z => ?_⟩, T, [x, y], rfl, upd_same, x, [y], fz, fz, rfl, ?_, ⟨y, [], fz, fz, rfl, ?_, ⟨rfl, rfl⟩, (fa_fz fz).symm⟩, (fa_fz fz).symm⟩
  · by_cases q : a = T
    · subst q; rw [upd_same] at z ⊢; exact z
    · rw [upd_ne q] at z ⊢; exact ph a o z
  · by_cases q : a = T
    · subst q; exact .inr hT
    · rw [upd_ne q] at z; exact .inl z
  · exact Rep.mono eP d1 x fz (fun a o z _ => by simp [fz] at z) r1
  · exact Rep.mono eP d2 y fz (fun a o z _ => by simp [fz] at z) r2
theorem rep_ph {c : LC} {P P2 H H2 : Hp} {d : D} {x : V} (e : Ex P P2) (r : Rep c P H d x fz) : Rep c P2 H2 d x fz := Rep.mono e d x fz (fun a o z _ => by simp [fz] at z) r
theorem i_enum {elts : List Expr} {kk : Nat} {p tpos : Pos} (hg : Gl X "enumerate") (hm : X.mg "enumerate" = none) (h : PE X e (tR ⟨X.K, cl⟩ E m)) (hs : starEach [e] X.env = (false, eval e X.env) :: starEach [] X.env := by rfl) :
    PI X (.Tuple elts kk tpos) (.Call (.Name "enumerate" p) [e] [] pos) (tI ⟨X.K, cl⟩ E (enumM m)) := PI_imp (pi_enum hg hm (a_cons h a_nil hs) hs) fun σ H R ⟨P, S, T, ρ, ds, w, hm, q⟩ => by
  unfold enumM at hm
  cases ea : m ρ with
  | none => rw [ea] at hm; cases hm
  | some d =>
    rw [ea, Option.bind_some] at hm
    cases el : lstD d with
    | none => rw [el] at hm; cases hm
    | some es =>
      rw [el] at hm
      cases hm
      refine ⟨P, S, T, ρ, [d], w, by simp [consM, nilM, ea], fun vs H1 P1 U1 g1 ⟨y, ys, T1, T2, e1, r1, r2, f⟩ => ?_⟩
      obtain ⟨p, xs, e2, hp, rl⟩ := lst_sq el r1
      refine ⟨p, xs, by rw [e1, e2, r2.1], sql_mono g1.ph hp, q _ H1 P1 g1 ⟨_, _, by rw [enumFrom_len, (rl H1).length]; exact walk_enum (xs := xs), fun P2 H2 e1 e2 => sql_mono e2 (sql_mono e1 hp), fun i P2 H2 x H3 e1 e2 hi y => ?_⟩⟩
      obtain ⟨T, x1, y1, h1, h2, h3, h4, h5⟩ := y
      cases h4
      obtain ⟨d1, k1, k2⟩ := rep_get0 (rl H2) h5
      obtain ⟨P3, g3, r3⟩ := pair_gr (c := ⟨X.K, cl⟩) (d1 := .int ((0 + i : Nat) : Int)) e2 h2 h3 ⟨by simp, rfl⟩ (rep_ph (H2 := H2) e1 k2)
      exact ⟨P3, _, g3, enumFrom_get es 0 i d1 k1, h1 ▸ r3⟩
theorem i_zip {e2 : Expr} {m2 : RM} {elts : List Expr} {kk : Nat} {p tpos : Pos} (hg : Gl X "zip") (hm : X.mg "zip" = none) (h : PE X e (tR ⟨X.K, cl⟩ E m)) (h2 : PE X e2 (tR ⟨X.K, cl⟩ E m2))
    (hs : starEach [e, e2] X.env = (false, eval e X.env) :: starEach [e2] X.env := by rfl) (hpl : (backTo pos (starEach [e2] X.env)).any (·.1) = false := by rfl) (hs2 : starEach [e2] X.env = (false, eval e2 X.env) :: starEach [] X.env := by rfl) :
    PI X (.Tuple elts kk tpos) (.Call (.Name "zip" p) [e, e2] [] pos) (tI ⟨X.K, cl⟩ E (zipM m m2)) := PI_imp (pi_zip hg hm (a_cons h (a_cons h2 a_nil hs2) hs) hs hpl) fun σ H R ⟨P, S, T, ρ, ds, w, hm, q⟩ => by
  unfold zipM at hm
  cases ea : m ρ with
  | none => rw [ea] at hm; cases hm
  | some d =>
    cases eb : m2 ρ with
    | none => rw [ea, eb] at hm; cases hm
    | some d' =>
      rw [ea, eb, Option.bind_some, Option.bind_some] at hm
      cases el : lstD d with
      | none => rw [el] at hm; cases hm
      | some es =>
        cases el2 : lstD d' with
        | none => rw [el, el2] at hm; cases hm
        | some es2 =>
          rw [el, el2] at hm
          cases hm
          refine ⟨P, S, T, ρ, [d, d'], w, by simp [consM, nilM, ea, eb], fun vs H1 P1 U1 g1 ⟨y, ys, T1, T2, e1, r1, ⟨y', ys', T3, T4, e1', r1', r2, f'⟩, f⟩ => ?_⟩
          obtain ⟨p, xs, e2, hp, rl⟩ := lst_sq el r1
          obtain ⟨p', xs', e2', hp', rl'⟩ := lst_sq el2 r1'
          refine ⟨p, p', xs, xs', by rw [e1, e2, e1', e2', r2.1], sql_mono g1.ph hp, sql_mono g1.ph hp', q _ H1 P1 g1 ⟨_, _, walk_zip (xs := xs) (ys := xs') (by rw [zipD_len, (rl H1).length, (rl' H1).length]), fun P2 H2 e1 e2 => ⟨sql_mono e2 (sql_mono e1 hp), sql_mono e2 (sql_mono e1 hp')⟩, fun i P2 H2 x H3 e1 e2 hi y => ?_⟩⟩
          obtain ⟨T, x1, y1, h1, h2, h3, h4, h5⟩ := y
          obtain ⟨d1, k1, k2⟩ := rep_get0 (rl H2) h4
          obtain ⟨d2, k1', k2'⟩ := rep_get0 (rl' H2) h5
          obtain ⟨P3, g3, r3⟩ := pair_gr (c := ⟨X.K, cl⟩) e2 h2 h3 (rep_ph (H2 := H2) e1 k2) (rep_ph (H2 := H2) e1 k2')
          exact ⟨P3, _, g3, zipD_get es es2 i d1 d2 k1 k1', h1 ▸ r3⟩
theorem i_rev {p : Pos} (hg : Gl X "reversed") (hm : X.mg "reversed" = none) (h : PE X e (tR ⟨X.K, cl⟩ E m)) (hs : starEach [e] X.env = (false, eval e X.env) :: starEach [] X.env := by rfl) :
    PI X tg (.Call (.Name "reversed" p) [e] [] pos) (tI ⟨X.K, cl⟩ E (revM m)) := PI_imp (pi_reversed hg hm (a_cons h a_nil hs) hs) fun σ H R ⟨P, S, T, ρ, ds, w, hm, q⟩ => by
  unfold revM at hm
  cases ea : m ρ with
  | none => rw [ea] at hm; cases hm
  | some d =>
    rw [ea, Option.bind_some] at hm
    cases el : lstD d with
    | none => rw [el] at hm; cases hm
    | some es =>
      rw [el] at hm
      cases hm
      refine ⟨P, S, T, ρ, [d], w, by simp [consM, nilM, ea], fun vs H1 P1 U1 g1 ⟨y, ys, T1, T2, e1, r1, r2, f⟩ => ?_⟩
      obtain ⟨p, xs, e2, hp, rl⟩ := lst_sq el r1
      refine ⟨p, xs, by rw [e1, e2, r2.1], sql_mono g1.ph hp, q _ H1 P1 g1 ⟨_, _, by rw [List.length_reverse, (rl H1).length]; exact walk_rev (xs := xs), fun P2 H2 e1 e2 => sql_mono e2 (sql_mono e1 hp), fun i P2 H2 x H3 e1 e2 hi y => ?_⟩⟩
      obtain ⟨h1, h2⟩ := y
      subst h1
      rw [List.length_reverse] at hi
      obtain ⟨d1, k1, k2⟩ := rep_get0 (rl H3) h2
      refine ⟨P2, d1, .refl e2, ?_, rep_ph e1 k2⟩
      rw [List.getElem?_reverse hi, (rl H3).length]
      exact k1
end
/-! ### comprehensions over what is one's own -/
def IterV (c : LC) (P H : Hp) (J : It) (ds : List D) : Prop := ∃ (G : Hp → Prop) (Y : Nat → Hp → V → Hp → Prop), Walk J ds.length G Y ∧ (∀ P2 H2, Gr P H P2 H2 → G H2) ∧
  ∀ i P2 H2 x H3, Gr P H P2 H2 → i < ds.length → Y i H2 x H3 → ∃ P3 d, Gr P2 H2 P3 H3 ∧ ds[i]? = some d ∧ Rep c P3 H3 d x fz
def tIV (c : LC) (E : En) (m : AM) : TI := fun σ H R => ∃ P S T ρ ds, Wd c E P S T σ H ρ ∧ m ρ = some ds ∧ ∀ J H' P', Gr P H P' H' → IterV c P' H' J ds → R J H'
def itemsV : D → Option (List D)
  | .lst _ ds => if frzL ds = true then some ds else none
  | d => itemsD d
def itV (m : RM) : AM := fun ρ => (m ρ).bind itemsV
section
variable {X : Cx} {cl : Nat → Addr} {E : En} {e a b tg : Expr} {pos : Pos} {m ma mb : RM}
theorem i_up {ms : AM} (h : PI X tg e (tI ⟨X.K, cl⟩ E ms)) : PI X tg e (tIV ⟨X.K, cl⟩ E ms) := PI_imp h fun σ H R ⟨P, S, T, ρ, ds, w, hm, q⟩ =>
  ⟨P, S, T, ρ, ds, w, hm, fun J H1 P1 g1 ⟨G, Y, wk, hG, hY⟩ => q J H1 P1 g1 ⟨G, Y, wk, fun P2 H2 g2 => hG P2 H2 g2.p g2.ph, fun i P2 H2 x H3 g2 hi y => hY i P2 H2 x H3 g2.p g2.ph hi y⟩⟩
theorem PI_or' {t u : TI} (h : PI X tg e t) (k : PI X tg e u) : PI X tg e (fun σ H Q => t σ H Q ∨ u σ H Q) := PI_or h k
theorem i_seqV (h : PE X e (tR ⟨X.K, cl⟩ E m)) : PI X tg e (tIV ⟨X.K, cl⟩ E (itV m)) := by
  refine PI_imp (PI_or (pi_list h) (i_up (i_seq h))) fun σ H R ⟨P, S, T, ρ, ds, w, hm, q⟩ => ?_
  unfold itV at hm
  cases ea : m ρ with
  | none => rw [ea] at hm; cases hm
  | some d =>
    rw [ea] at hm
    replace hm : itemsV d = some ds := hm
    cases d with
    | lst o es =>
      replace hm : (if frzL es = true then some es else none) = some ds := hm
      split at hm
      · rename_i hf
        cases hm
        refine .inl ⟨P, S, T, ρ, _, w, ea, fun v H1 P1 U1 g1 r1 => ?_⟩
        obtain ⟨p, xs, T', e1, hp, rl, _⟩ := lst_heap g1.ph r1
        have z := RepL.frz0 _ xs _ hf rl
        subst z
        refine ⟨p, e1, ⟨xs, .inl (.inl hp)⟩, q _ H1 P1 g1 ⟨_, _, by rw [rl.length]; exact walk_list (K := X.K) (a := p) (xs := xs), fun P2 H2 g2 => Or.inl (Or.inl (g2.h _ _ hp)), fun i P2 H2 x H3 g2 hi y => ?_⟩⟩
        obtain ⟨rfl, hx⟩ := y
        obtain ⟨d, h1, h2⟩ := rep_get0 (repL_h (H' := H3) rl) hx
        exact ⟨P2, d, .refl g2.ph, h1, Rep.mono g2.p d x fz (fun a o z _ => by simp [fz] at z) h2⟩
      · cases hm
    | _ => exact .inr ⟨P, S, T, ρ, ds, w, by unfold itM; rw [ea]; exact hm, q⟩
theorem lcV_run {c : LC} {vs tl : List Nat} {f : TgM} {mc : BM} {me : RM} {ms : AM} (ht : ∀ j ∈ tl, j ∈ vs) (hk : ∀ j ∈ vs, E.kp[j]? ≠ some true) {σ : St} {H : Hp} {Q : VK} (h : tF c E (compM vs f mc me ms) σ H Q) :
    tLc (tIV c E ms) (tPG c E tl f) (tTs c E mc) (tR c E me) vs σ H Q := by
  obtain ⟨P, S, T, ρ, d, w, hm, q⟩ := h
  unfold compM at hm
  cases es : ms ρ with
  | none => rw [es] at hm; cases hm
  | some ds =>
    rw [es, Option.bind_some] at hm
    split at hm
    · rename_i hlim
      cases ec : compL f mc me (goneAt ρ vs) ds with
      | none => rw [ec] at hm; cases hm
      | some ys =>
        rw [ec] at hm
        cases hm
        refine ⟨P, S, T, ρ, ds, w, es, fun J H1 P1 g1 io => ?_⟩
        intro Dl hD
        obtain ⟨G, Y, wk, hG, hY⟩ := io
        have hP1 : P1 Dl = none := none_of g1.ph hD
        -- the invariant
        refine lc_it wk (fun i Hh => ∃ P2 zs acc, compL f mc me (goneAt ρ vs) (ds.take i) = some zs ∧ Gr P1 H1 P2 Hh ∧ P2 Dl = none ∧ Hh Dl = some (.lst acc) ∧ RepL c P2 Hh zs acc fz) ?_ ?_ ?_ ?_
        · exact ⟨P1, [], [], rfl, ⟨.refl _, ex_new hD, g1.ph.trans (ex_new hD), fun a z => .inl z⟩, hP1, upd_same, rfl, rfl⟩
        · rintro i Hh hi ⟨P2, zs, acc, h1, g2, _, _, _⟩
          exact hG P2 Hh g2
        · rintro i x Hh H3 hi ⟨P2, zs, acc, h1, g2, hD2, hDl, rl⟩ y
          obtain ⟨P3, d, g3, hd, rd⟩ := hY i P2 Hh x H3 g2 hi y
          obtain ⟨zs', ρ1, k, t1, t2, t3, t4, t5⟩ := compL_turn ec hd
          rw [h1] at t1
          cases t1
          obtain ⟨S3, w3⟩ := (((w.grow g1).grow g2).grow g3).wipe vs hk
          have w3' : Wd c E P3 S3 (fa T fz) (L2.wipe σ vs) H3 (goneAt ρ vs) := by rw [fa_fz]; exact w3
          have hD3 : P3 Dl = none := by
            cases z : P3 Dl with
            | none => rfl
            | some o =>
              rcases g3.new Dl (by rw [z]; simp) with q' | q'
              · exact absurd hD2 q'
              · rw [hDl] at q'; cases q'
          refine ⟨P3, S3, T, fz, _, d, ρ1, w3', rd, t2, fun σ' S' w4 l4 k4 => ⟨?_, P3, S', T, ρ1, k, w4, t3, fun H4 P4 g4 => ?_⟩⟩
          · rw [wipe_eq (vs := vs) l4 fun j hj => k4 j fun z => hj (ht j z)]
            exact wipe_wipe σ vs
          · have hD4 : P4 Dl = none := by
              cases z : P4 Dl with
              | none => rfl
              | some o =>
                rcases g4.new Dl (by rw [z]; simp) with q' | q'
                · exact absurd hD3 q'
                · rw [g3.h _ _ hDl] at q'; cases q'
            cases k with
            | true =>
              obtain ⟨y', e1, e2, e3⟩ := t4 rfl
              refine iteT ⟨P4, S', T, ρ1, y', w4.grow g4, e1, fun v H5 P5 U5 g5 r5 => ?_⟩
              have hU := Rep.frz0 y' v U5 e2 r5
              subst hU
              have hD5 : P5 Dl = none := by
                cases z : P5 Dl with
                | none => rfl
                | some o =>
                  rcases g5.new Dl (by rw [z]; simp) with q' | q'
                  · exact absurd hD4 q'
                  · rw [g4.h _ _ (g3.h _ _ hDl)] at q'; cases q'
              have gg := ((g2.trans g3).trans g4).trans g5
              have hDl5 : H5 Dl = some (.lst acc) := g5.h _ _ (g4.h _ _ (g3.h _ _ hDl))
              refine ⟨acc, hDl5, ?_, P5, zs ++ [y'], acc ++ [v], e3, ⟨gg.p, fun a o z => ?_, fun a o z => ?_, gg.new⟩, hD5, upd_same, ?_⟩
              · have h2 := compL_len h1
                have h3 := rl.length
                have : zs.length ≤ ds.length := Nat.le_trans h2 (by rw [List.length_take]; omega)
                have : (zs ++ [y']).length ≤ (ds.take (i + 1)).length := compL_len e3
                rw [List.length_append, List.length_take] at this
                have e4 : acc.length < LIM := by
                  simp only [List.length_cons, List.length_nil] at this
                  omega
                exact lim_lt e4
              · by_cases z2 : a = Dl
                · subst z2; rw [hD] at z; cases z
                · rw [upd_ne z2]; exact gg.h a o z
              · by_cases z2 : a = Dl
                · subst z2; rw [hD5] at z; cases z
                · rw [upd_ne z2]; exact g5.ph a o z
              · have r6 := RepL.append (repL_h (H' := upd H5 Dl (.lst (acc ++ [v]))) (((rl.gr g3).gr g4).gr g5)) (show RepL c P5 (upd H5 Dl (.lst (acc ++ [v]))) [y'] [v] fz from ⟨v, [], fz, fz, rfl, Rep.mono (.refl _) y' v fz (fun a o z _ => by simp [fz] at z) r5, ⟨rfl, rfl⟩, (fa_fz fz).symm⟩)
                rwa [fa_fz] at r6
            | false =>
              refine iteF ⟨P4, zs, acc, t5 rfl, (g2.trans g3).trans g4, hD4, g4.h _ _ (g3.h _ _ hDl), (rl.gr g3).gr g4⟩
        · rintro Hh ⟨P2, zs, acc, h1, g2, hD2, hDl, rl⟩
          rw [List.take_length, ec] at h1
          cases h1
          refine q _ Hh P2 (one Dl) (g1.trans g2) ⟨Dl, acc, fz, rfl, hDl, rl, (fa_fz _).symm⟩ one_le fun a z => ?_
          rw [one_pos z]
          refine ⟨?_, hD2⟩
          cases z : H Dl with
          | none => rfl
          | some o => rw [g1.h _ _ z] at hD; cases hD
    · cases hm
theorem f_lcV {elt tg iter : Expr} {ifs : List Expr} {scope : Scope} (own : List (Str × Nat)) {vs : List Nat} {tl : List Nat} {f : TgM} {mc : BM} {me : RM} {ms : AM} (hvs : own.map (·.2) = vs) (hc : X.calm = true) (hN : X.N.Nodup) (hi : PI X tg iter (tIV ⟨X.K, cl⟩ E ms)) (ok : BlkOk X.N X.env.scope scope own)
    (hg : ∀ (s : Shared) (H : Hp) (C : Addr) (c : List (Str × Addr)) (fp : List Addr), PG (X.blk s H scope (compEnvC scope c C X.env) fp) tg (tPG ⟨X.K, cl⟩ E tl f)) (ht : ∀ (s : Shared) (H : Hp) (C : Addr) (c : List (Str × Addr)) (fp : List Addr), PTs (X.blk s H scope (compEnvC scope c C X.env) fp) ifs (tTs ⟨X.K, cl⟩ E mc))
    (he : ∀ (s : Shared) (H : Hp) (C : Addr) (c : List (Str × Addr)) (fp : List Addr), PE (X.blk s H scope (compEnvC scope c C X.env) fp) elt (tR ⟨X.K, cl⟩ E me)) (h1 : ∀ j ∈ tl, j ∈ vs) (h2 : ∀ j ∈ vs, E.kp[j]? ≠ some true) (hs : ∀ x, foldedSetIterable iter X.env x = pure x := by intro _; rfl) :
    PE X (.ListComp elt [⟨tg, iter, ifs, 0⟩] scope pos) (tF ⟨X.K, cl⟩ E (compM vs f mc me ms)) := by
  subst hvs
  exact PE_imp (pe_lc hc hN hi ok hg ht he hs) fun _ _ _ h => lcV_run h1 h2 h
theorem s_setLcV (i : Nat) {y : Str} {py : Pos} {elt tg iter : Expr} {ifs : List Expr} {scope : Scope} (own : List (Str × Nat)) {spos : Pos} {vs : List Nat} {tl : List Nat} {f : TgM} {mc : BM} {me : RM} {ms : AM} (hvs : own.map (·.2) = vs) (hc : X.calm = true) (hN : X.N.Nodup) (hy : X.N[i]? = some y) (hyl : X.env.scope.names.lookup y = some .local) (hki : E.kp[i]? ≠ some true)
    (hi : PI X tg iter (tIV ⟨X.K, cl⟩ E ms)) (ok : BlkOk X.N X.env.scope scope own)
    (hg : ∀ (s : Shared) (H : Hp) (C : Addr) (c : List (Str × Addr)) (fp : List Addr), PG (X.blk s H scope (compEnvC scope c C X.env) fp) tg (tPG ⟨X.K, cl⟩ E tl f)) (ht : ∀ (s : Shared) (H : Hp) (C : Addr) (c : List (Str × Addr)) (fp : List Addr), PTs (X.blk s H scope (compEnvC scope c C X.env) fp) ifs (tTs ⟨X.K, cl⟩ E mc))
    (he : ∀ (s : Shared) (H : Hp) (C : Addr) (c : List (Str × Addr)) (fp : List Addr), PE (X.blk s H scope (compEnvC scope c C X.env) fp) elt (tR ⟨X.K, cl⟩ E me)) (h1 : ∀ j ∈ tl, j ∈ vs) (h2 : ∀ j ∈ vs, E.kp[j]? ≠ some true)
    (hsw : swapsWith (.ListComp elt [⟨tg, iter, ifs, 0⟩] scope pos) (some (.Name y py)) spos.line X.env = pure true) (hs : ∀ x, foldedSetIterable iter X.env x = pure x := by intro _; rfl) :
    PS X (.Assign [.Name y py] (.ListComp elt [⟨tg, iter, ifs, 0⟩] scope pos) spos) (tS ⟨X.K, cl⟩ E (asgM (nameT i) (upF (compM vs f mc me ms)))) := by
  subst hvs
  refine PS_imp (ps_setLc hc hN hy hyl hsw hi ok hg ht he hs) fun D σ H ⟨P, S, ρ, fl, ρ', w, hm, q⟩ => ?_
  unfold asgM upF at hm
  cases eg : compM (own.map (·.2)) f mc me ms ρ with
  | none => rw [eg] at hm; cases hm
  | some d =>
    rw [eg] at hm
    cases hm
    refine lcV_run (c := ⟨X.K, cl⟩) h1 h2 ⟨P, S, fz, ρ, d, w, eg, fun v H' P' U g r u1 u2 => ?_⟩
    obtain ⟨S2, w2⟩ := (w.aside g u1 u2 (Rep.there d v U r)).store r i hki
    exact q _ H' P' S2 w2 g.p
end
/-- never called -/
theorem ok_none {P : Program} {w : World} {K : PySem.W.Frag} {mg : Str → Option Value} {base : Heap} {c : LC} {k : Nat} {f : Addr} {fd : FuncData} {ps : List Str} : FnOk P w K mg base CX0 k f fd ps (spD c fun _ => none) :=
  ⟨fun vs H Q E ⟨_, _, _, _, _, _, _, _, _, hm, _⟩ => (by cases hm), fun A outer s H args us vs Q E hr he hb hv ⟨_, _, _, _, _, _, _, _, _, hm, _⟩ => (by cases hm)⟩
end LI
/-! LV: dicts made. -/
namespace LI
open PySem L2

theorem FQ.dK {c : LC} {P H : Hp} {Q : VK} {ks : List Key} {ds : List D} {xs : List V} (h : FQ c P H (.dK true ks ds) Q) (e : Ex P H) (n : ks.length = xs.length) (r : RepL c P H ds xs fz) : ∀ p, H p = none → Q (.ref p) (upd H p (.dK (ks.zip xs))) := fun p hp => by
  refine h _ _ P (one p) ⟨.refl _, ex_new hp, e.trans (ex_new hp), fun _ z => .inl z⟩ ⟨p, xs, fz, rfl, upd_same, n, RepL.mono (.refl _) ds xs fz (fun a o z _ => by simp [fz] at z) r, (fa_fz _).symm⟩ one_le fun a z => ?_
  rw [one_pos z]
  exact ⟨hp, none_of e hp⟩
theorem valV_zip_none {ks : List Key} {k : Key} : ∀ {xs : List V}, k ∉ ks → valV (ks.zip xs) k = none := by
  induction ks with
  | nil => intro xs _; rfl
  | cons k0 ks ih =>
    intro xs h
    cases xs with
    | nil => rfl
    | cons x xs =>
      simp only [List.mem_cons, not_or] at h
      have := ih (xs := xs) h.2
      unfold valV at this ⊢
      rw [List.zip_cons_cons, List.find?_cons_of_neg (by simpa using fun z => h.1 z.symm)]
      exact this
theorem mergeK_new : ∀ (ks : List Key) (xs : List V) (js : List Key) (ys : List V), ks.length = xs.length → js.length = ys.length → (ks ++ js).Nodup → mergeK (ks.zip xs) (js.zip ys) = (ks ++ js).zip (xs ++ ys)
  | ks, xs, [], ys, h1, h2, h3 => by
    have : ys = [] := List.length_eq_zero_iff.mp h2.symm
    subst this; simp [mergeK]
  | ks, xs, j :: js, [], h1, h2, h3 => by simp at h2
  | ks, xs, j :: js, y :: ys, h1, h2, h3 => by
    have hj : j ∉ ks := fun z => by
      have := (List.nodup_append.mp h3).2.2 j z j (by simp)
      exact this rfl
    show mergeK (putK (ks.zip xs) j y) (js.zip ys) = _
    rw [putK_new y (valV_zip_none hj)]
    have e : ks.zip xs ++ [(j, y)] = (ks ++ [j]).zip (xs ++ [y]) := by rw [List.zip_append h1]; rfl
    rw [e, mergeK_new (ks ++ [j]) (xs ++ [y]) js ys (by simp [h1]) (by simpa using h2) (by simpa using h3)]
    simp

/-- the pairs of a display -/
structure PDs (X : Cx) (c : LC) (E : En) (pos : Pos) (keys : List (Option Expr)) (values : List Expr) (mk mv : AM) : Prop where
  ex : ∃ trs, PPs X pos keys values trs ∧ ∀ σ H (Q : List (V × V) → Hp → Prop) P S T ρ kds vds, Wd c E P S T σ H ρ → mk ρ = some kds → mv ρ = some vds →
    (∀ xs ys H' P' U1 U2, Gr P H P' H' → RepL c P' H' kds xs U1 → RepL c P' H' vds ys U2 → xs.length = ys.length → Q (xs.zip ys) H') → tPairs trs σ H Q
section
variable {X : Cx} {cl : Nat → Addr} {E : En} {pos : Pos}
theorem pd_nil : PDs X ⟨X.K, cl⟩ E pos [] [] nilM nilM := ⟨[], pps_nil, fun σ H Q P S T ρ kds vds w h1 h2 q => by
  cases h1; cases h2
  exact q [] [] H P fz fz (.refl w.ph) ⟨rfl, rfl⟩ ⟨rfl, rfl⟩ rfl⟩
theorem pd_cons {k v : Expr} {ks : List (Option Expr)} {vs : List Expr} {mk mv : RM} {mks mvs : AM} (hk : PE X k (tR ⟨X.K, cl⟩ E mk)) (hv : PE X v (tR ⟨X.K, cl⟩ E mv)) (hr : PDs X ⟨X.K, cl⟩ E pos ks vs mks mvs) :
    PDs X ⟨X.K, cl⟩ E pos (some k :: ks) (v :: vs) (consM mk mks) (consM mv mvs) := by
  obtain ⟨trs, p1, p2⟩ := hr.ex
  refine ⟨⟨_, pps_cons hk hv p1, fun σ H Q P S T ρ kds vds w h1 h2 q => ?_⟩⟩
  unfold consM at h1 h2
  cases ek : mk ρ with
  | none => rw [ek] at h1; cases h1
  | some d1 =>
    cases ev : mv ρ with
    | none => rw [ev] at h2; cases h2
    | some d2 =>
      cases eks : mks ρ with
      | none => rw [ek, eks] at h1; cases h1
      | some ds1 =>
        cases evs : mvs ρ with
        | none => rw [ev, evs] at h2; cases h2
        | some ds2 =>
          rw [ek, eks] at h1; rw [ev, evs] at h2
          cases h1; cases h2
          refine ⟨P, S, T, ρ, d1, w, ek, fun x H1 P1 U1 g1 r1 => ⟨P1, S, T, ρ, d2, w.grow g1, ev, fun y H2 P2 U2 g2 r2 => ?_⟩⟩
          refine p2 σ H2 _ P2 S T ρ ds1 ds2 ((w.grow g1).grow g2) eks evs fun xs ys H3 P3 U3 U4 g3 r3 r4 hl => ?_
          exact q (x :: xs) (y :: ys) H3 P3 (fa U1 U3) (fa U2 U4) ((g1.trans g2).trans g3) ⟨x, xs, U1, U3, rfl, (r1.gr g2).gr g3, r3, rfl⟩ ⟨y, ys, U2, U4, rfl, r2.gr g3, r4, rfl⟩ (by simp [hl])
def dispM (mk mv : AM) : RM := fun ρ => (mk ρ).bind fun kds => (mv ρ).bind fun vds => (keyDs kds).bind fun ks => if ks.Nodup ∧ frzL vds = true ∧ ks.length ≤ 15 ∧ ks.length = vds.length then some (.dK true ks vds) else none
theorem keyDs_len : ∀ {ds : List D} {ks : List Key}, keyDs ds = some ks → ks.length = ds.length
  | [], ks, h => by cases h; rfl
  | d :: ds, ks, h => by
    unfold keyDs at h
    cases z : keyD d with
    | none => rw [z] at h; cases h
    | some k =>
      cases z2 : keyDs ds with
      | none => rw [z, z2] at h; cases h
      | some ks' => rw [z, z2] at h; cases h; simp [keyDs_len z2]
theorem f_dnew : PE X (.Dict [] [] pos) (tF ⟨X.K, cl⟩ E (dispM nilM nilM)) := PE_imp pe_dnewK fun σ H Q ⟨P, S, T, ρ, d, w, hm, q⟩ => by
  cases hm
  exact fun p hp => q.dK (ks := []) (ds := []) (xs := []) w.ph rfl ⟨rfl, rfl⟩ p hp
theorem f_disp {keys : List (Option Expr)} {values : List Expr} {mk mv : AM} (h : PDs X ⟨X.K, cl⟩ E pos keys values mk mv) (hall : keys.all (·.isSome) = true) (hl : keys.length = values.length) (h0 : keys ≠ []) (h15 : keys.length ≤ 15) :
    PE X (.Dict keys values pos) (tF ⟨X.K, cl⟩ E (dispM mk mv)) := by
  obtain ⟨trs, p1, p2⟩ := h.ex
  refine PE_imp (pe_disp p1 hall hl h0 h15) fun σ H Q ⟨P, S, T, ρ, d, w, hm, q⟩ => ?_
  unfold dispM at hm
  cases ek : mk ρ with
  | none => rw [ek] at hm; cases hm
  | some kds =>
    cases ev : mv ρ with
    | none => rw [ek, Option.bind_some, ev] at hm; cases hm
    | some vds =>
      rw [ek, Option.bind_some, ev, Option.bind_some] at hm
      cases eks : keyDs kds with
      | none => rw [eks] at hm; cases hm
      | some ks =>
        rw [eks, Option.bind_some] at hm
        split at hm
        · rename_i hc
          obtain ⟨c1, c2, c3, c4⟩ := hc
          cases hm
          intro p hp
          have hP := none_of w.ph hp
          have g1 : Gr P H P (upd H p (.dK [])) := ⟨.refl _, ex_new hp, w.ph.trans (ex_new hp), fun a z => .inl z⟩
          refine p2 σ _ _ P S T ρ kds vds (w.grow g1) ek ev fun xs ys H2 P2 U1 U2 g2 r1 r2 hlen => ?_
          have hp2 : H2 p = some (.dK []) := g2.h p _ upd_same
          have hP2 : P2 p = none := by
            cases z : P2 p with
            | none => rfl
            | some o =>
              rcases g2.new p (by rw [z]; simp) with y | y
              · exact absurd hP y
              · rw [upd_same] at y; cases y
          have hx := keyDs_v eks r1
          have hz := RepL.frz0 vds ys U2 c2 r2
          subst hz
          refine ⟨hp2, ks.zip ys, ?_, ?_, ?_⟩
          · rw [hx, List.zip_map_left]; rfl
          · rw [List.length_zip]; omega
          · have hn : ks.length = ys.length := by rw [← hlen, hx, List.length_map]
            have em : mergeK [] (ks.zip ys) = ks.zip ys := by
              have := mergeK_new [] [] ks ys rfl hn (by simpa using c1)
              simpa using this
            rw [em]
            refine q _ _ P2 (one p) ⟨g2.p, fun a o z => ?_, fun a o z => ?_, fun a z => ?_⟩ ⟨p, ys, fz, rfl, upd_same, hn, repL_h r2, (fa_fz _).symm⟩ one_le fun a z => ?_
            · have : a ≠ p := ne_of_none z hp
              rw [upd_ne this]
              exact g2.h a o (by rw [upd_ne this]; exact z)
            · have : a ≠ p := fun y => by subst y; rw [hP2] at z; cases z
              rw [upd_ne this]
              exact g2.ph a o z
            · have : a ≠ p := fun y => by subst y; exact z hP2
              rcases g2.new a z with y | y
              · exact .inl y
              · rw [upd_ne this] at y; exact .inr y
            · rw [one_pos z]; exact ⟨hp, hP2⟩
        · cases hm
end
end LI
/-! LQ: how the terms are worked out, in plain Lean. -/
namespace LI
open PySem L2

/-! ### the terms -/
def rng1D : D → Option (List D) := fun d => match d with | .int j => if -(2 ^ 62) ≤ j ∧ j < 2 ^ 62 then some (upD 0 j.toNat) else none | _ => none
def rng2D : D → D → Option (List D) := fun x y => match x, y with | .int i, .int j => if -(2 ^ 62) ≤ i ∧ i < 2 ^ 62 ∧ -(2 ^ 62) ≤ j ∧ j < 2 ^ 62 then some (upD i (j - i).toNat) else none | _, _ => none
theorem rng1_int {j : Int} (h1 : -1000000000000 ≤ j) (h2 : j ≤ 1000000000000) : rng1D (.int j) = some (upD 0 j.toNat) := by
  unfold rng1D
  exact if_pos ⟨by omega, by omega⟩
theorem rng1_nat {k : Nat} (h2 : k ≤ 1000000000000) : rng1D (.int k) = some (upD 0 k) := rng1_int (by omega) (by omega)
theorem rng2_int {i j : Int} (h1 : -1000000000000 ≤ i) (h2 : i ≤ 1000000000000) (h3 : -1000000000000 ≤ j) (h4 : j ≤ 1000000000000) : rng2D (.int i) (.int j) = some (upD i (j - i).toNat) := by
  unfold rng2D
  exact if_pos ⟨by omega, by omega, by omega, by omega⟩

section
variable {ρ : List D} {i n : Nat} {d : D} {m ma mb mc : RM} {ms : AM} {f : D → D → Option D} {g : D → Option D} {F : FM}
@[simp] theorem ev_v : vM i ρ = (ρ[i]?).bind fun d => if notGone d = true then some d else none := (rfl)
@[simp] theorem ev_k : kM d ρ = some d := (rfl)
@[simp] theorem ev_m2 : m2 f ma mb ρ = (ma ρ).bind fun x => (mb ρ).bind fun y => f x y := (rfl)
@[simp] theorem ev_m1 : m1 g ma ρ = (ma ρ).bind g := (rfl)
@[simp] theorem ev_nil : nilM ρ = some [] := (rfl)
@[simp] theorem ev_cons : consM m ms ρ = (m ρ).bind fun d => (ms ρ).map fun ds => d :: ds := (rfl)
@[simp] theorem ev_tup : tupM ms ρ = (ms ρ).bind fun ds => if frzL ds = true ∧ ds.length ≤ LIM then some (.tup ds) else none := (rfl)
@[simp] theorem ev_lst : lstM ms ρ = (ms ρ).bind fun ds => if frzL ds = true ∧ ds.length ≤ LIM then some (.lst true ds) else none := (rfl)
@[simp] theorem ev_call : callM F ms ρ = (ms ρ).bind fun ds => (F (iceL ds)).bind fun r => if frzL ds = true ∨ isFlat r.1 = true then some r.1 else none := (rfl)
@[simp] theorem ev_callV : callVM F ms ρ = (ms ρ).bind fun ds => (F (iceL ds)).map (·.1) := (rfl)
@[simp] theorem ev_upF : upF m ρ = (m ρ).map fun d => (d, ρ) := (rfl)
@[simp] theorem ev_upR : upR m ρ = (m ρ).bind fun d => if frz d = true then some (d, ρ) else none := (rfl)
@[simp] theorem ev_cold : coldM m ρ = (m ρ).map ice := (rfl)
@[simp] theorem ev_fr : frM m ρ = (m ρ).bind fun d => if frz d = true then some d else none := (rfl)
@[simp] theorem ev_tru : truM m ρ = (m ρ).bind truD := (rfl)
@[simp] theorem ev_bM : bM m ρ = (m ρ).bind fun d => match d with | .bl b => some b | _ => none := (rfl)
@[simp] theorem ev_notB {b : BM} : notB b ρ = (b ρ).map not := (rfl)
@[simp] theorem ev_andB {a b : BM} : andB a b ρ = (a ρ).bind fun k => if k = true then b ρ else some false := (rfl)
@[simp] theorem ev_orB {a b : BM} : orB a b ρ = (a ρ).bind fun k => if k = true then some true else b ρ := (rfl)
@[simp] theorem ev_notD : notD m ρ = ((m ρ).bind truD).map fun k => .bl (!k) := (rfl)
@[simp] theorem ev_andM : andM ma mb ρ = (bM ma ρ).bind fun k => if k = true then mb ρ else some (.bl false) := (rfl)
@[simp] theorem ev_orM : orM ma mb ρ = (bM ma ρ).bind fun k => if k = true then some (.bl true) else mb ρ := (rfl)
@[simp] theorem ev_iteM {b : BM} : iteM b ma mb ρ = (b ρ).bind fun k => if k = true then ma ρ else mb ρ := (rfl)
@[simp] theorem ev_ch {f g : D → D → Option D} : chM f g ma mb mc ρ = (ma ρ).bind fun x => (mb ρ).bind fun y => (f x y).bind fun z => match z with | .bl true => (mc ρ).bind fun u => g y u | .bl false => some (.bl false) | _ => none := (rfl)
@[simp] theorem ev_mA {f : List D → Option D} : mA f ms ρ = (ms ρ).bind f := (rfl)
@[simp] theorem ev_isi {ty : String} : isiM ty m ρ = (m ρ).bind fun d => (tyD d).bind fun t => (kitB t ty).map .bl := (rfl)
@[simp] theorem ev_noM : noM ρ = some none := (rfl)
@[simp] theorem ev_soM : soM m ρ = (m ρ).bind fun d => match d with | .int i => some (some i) | _ => none := (rfl)
@[simp] theorem ev_slM {lo hi : OM} : slM m lo hi ρ = (m ρ).bind fun d => (lo ρ).bind fun l => (hi ρ).bind fun h => slD l h d := (rfl)
@[simp] theorem ev_it : itM m ρ = (m ρ).bind itemsD := (rfl)
@[simp] theorem ev_itV : itV m ρ = (m ρ).bind itemsV := (rfl)
@[simp] theorem ev_disp {mk mv : AM} : dispM mk mv ρ = (mk ρ).bind fun kds => (mv ρ).bind fun vds => (keyDs kds).bind fun ks => if ks.Nodup ∧ frzL vds = true ∧ ks.length ≤ 15 ∧ ks.length = vds.length then some (.dK true ks vds) else none := (rfl)
@[simp] theorem keyDs_nil : keyDs [] = some [] := (rfl)
@[simp] theorem keyDs_cons {d : D} {ds : List D} : keyDs (d :: ds) = (keyD d).bind fun k => (keyDs ds).map fun ks => k :: ks := (rfl)
@[simp] theorem keyD_int {i : Int} : keyD (.int i) = some (.inl i) := (rfl)
@[simp] theorem keyD_str {s : List Nat} : keyD (.str s) = some (.inr ⟨s.toArray⟩) := (rfl)
@[simp] theorem ev_rng1 : rng1M m ρ = (m ρ).bind rng1D := (rfl)
@[simp] theorem ev_rng2 : rng2M ma mb ρ = (ma ρ).bind fun x => (mb ρ).bind fun y => rng2D x y := (rfl)
@[simp] theorem ev_enum : enumM m ρ = (m ρ).bind fun d => (lstD d).map (enumFrom 0) := (rfl)
@[simp] theorem ev_zip : zipM ma mb ρ = (ma ρ).bind fun d1 => (mb ρ).bind fun d2 => (lstD d1).bind fun a => (lstD d2).map fun b => zipD a b := (rfl)
@[simp] theorem ev_rev : revM m ρ = (m ρ).bind fun d => (lstD d).map List.reverse := (rfl)
@[simp] theorem ev_comp {vs : List Nat} {f : TgM} {mc : BM} : compM vs f mc m ms ρ = (ms ρ).bind fun ds => if ds.length ≤ LIM then (compL f mc m (goneAt ρ vs) ds).map (.lst true) else none := (rfl)
@[simp] theorem ev_yes : yesB ρ = some true := (rfl)
@[simp] theorem ev_name : nameT i d ρ = some (ρ.set i d) := (rfl)
@[simp] theorem ev_tupT {f : List D → List D → Option (List D)} {ds : List D} : tupT f (.tup ds) ρ = f ds ρ := (rfl)
@[simp] theorem ev_consT {f : TgM} {g : List D → List D → Option (List D)} {ds : List D} : consT f g (d :: ds) ρ = (f d ρ).bind fun ρ => g ds ρ := (rfl)
@[simp] theorem ev_nilT : nilT [] ρ = some ρ := (rfl)
@[simp] theorem ev_gone0 : goneAt ρ [] = ρ := (rfl)
@[simp] theorem ev_gone1 {v : Nat} {vs : List Nat} : goneAt ρ (v :: vs) = (goneAt ρ vs).set v .gone := (rfl)
@[simp] theorem ev_vLget : (vL i).get ρ = (ρ[i]?).bind fun d => if notGone d = true then some d else none := (rfl)
@[simp] theorem ev_vLput : (vL i).put ρ d = ρ.set i d := (rfl)
@[simp] theorem ev_mv {L : Lens} : mvM L ρ = (L.get ρ).bind fun d => some (d, L.put ρ .gone) := (rfl)
@[simp] theorem ev_app {L : Lens} : appL L m ρ = (L.get ρ).bind fun d => (m ρ).bind fun y => match d with | .lst true ds => if ds.length < LIM then some (.non, L.put ρ (.lst true (ds ++ [y]))) else none | _ => none := (rfl)
@[simp] theorem ev_iceAt : iceAt i ρ = match ρ[i]? with | some d => ρ.set i (ice d) | none => ρ := (rfl)
@[simp] theorem ev_spNx {ρ' : List D} : maskL [] ρ' = [] := (rfl)
@[simp] theorem ev_mask {b : Bool} {bs : List Bool} {ds : List D} : maskL (b :: bs) (d :: ds) = (if b = true then d else .gone) :: maskL bs ds := (rfl)
@[simp] theorem ev_mask0 {b : Bool} {bs : List Bool} : maskL (b :: bs) [] = .gone :: maskL bs [] := (rfl)
end
@[simp] theorem ng_non : notGone .non = true := (rfl)
@[simp] theorem ng_gone : notGone .gone = false := (rfl)
@[simp] theorem ng_bl {b} : notGone (.bl b) = true := (rfl)
@[simp] theorem ng_int {b} : notGone (.int b) = true := (rfl)
@[simp] theorem ng_str {b} : notGone (.str b) = true := (rfl)
@[simp] theorem ng_scr {b} : notGone (.scr b) = true := (rfl)
@[simp] theorem ng_kst {b} : notGone (.kst b) = true := (rfl)
@[simp] theorem ng_tup {b} : notGone (.tup b) = true := (rfl)
@[simp] theorem ng_lst {o b} : notGone (.lst o b) = true := (rfl)
@[simp] theorem ng_dK {o k b} : notGone (.dK o k b) = true := (rfl)
@[simp] theorem ng_dT {o k b} : notGone (.dT o k b) = true := (rfl)
@[simp] theorem ng_obj {o k f b} : notGone (.obj o k f b) = true := (rfl)
@[simp] theorem fl_non : isFlat .non = true := (rfl)
@[simp] theorem fl_bl {b} : isFlat (.bl b) = true := (rfl)
@[simp] theorem fl_int {b} : isFlat (.int b) = true := (rfl)
@[simp] theorem fl_str {b} : isFlat (.str b) = true := (rfl)

/-! ### what is frozen -/
@[simp] theorem fz_gone : frz .gone = true := (rfl)
@[simp] theorem fz_non : frz .non = true := (rfl)
@[simp] theorem fz_bl {b} : frz (.bl b) = true := (rfl)
@[simp] theorem fz_int {b} : frz (.int b) = true := (rfl)
@[simp] theorem fz_str {b} : frz (.str b) = true := (rfl)
@[simp] theorem fz_scr {b} : frz (.scr b) = true := (rfl)
@[simp] theorem fz_kst {b} : frz (.kst b) = true := (rfl)
@[simp] theorem fz_tup {b} : frz (.tup b) = frzL b := (rfl)
@[simp] theorem fz_lst {o b} : frz (.lst o b) = (!o && frzL b) := (rfl)
@[simp] theorem fz_dK {o k b} : frz (.dK o k b) = (!o && frzL b) := (rfl)
@[simp] theorem fz_dT {o k b} : frz (.dT o k b) = (!o && frzL b) := (rfl)
@[simp] theorem fz_obj {o k f b} : frz (.obj o k f b) = (!o && frzL b) := (rfl)
@[simp] theorem fzL_nil : frzL [] = true := (rfl)
@[simp] theorem fzL_cons {d ds} : frzL (d :: ds) = (frz d && frzL ds) := (rfl)
@[simp] theorem frzL_map {α : Type} {f : α → D} {xs : List α} : frzL (xs.map f) = true ↔ ∀ x ∈ xs, frz (f x) = true := by simp [frzL_iff]
@[simp] theorem frzL_app {a b : List D} : frzL (a ++ b) = (frzL a && frzL b) := by
  rw [Bool.eq_iff_iff]; simp only [frzL_iff, List.mem_append, Bool.and_eq_true]
  exact ⟨fun h => ⟨fun d q => h d (.inl q), fun d q => h d (.inr q)⟩, fun h d q => q.elim (h.1 d) (h.2 d)⟩
@[simp] theorem ice_gone : ice .gone = .gone := (rfl)
@[simp] theorem ice_non : ice .non = .non := (rfl)
@[simp] theorem ice_bl {b} : ice (.bl b) = .bl b := (rfl)
@[simp] theorem ice_int {b} : ice (.int b) = .int b := (rfl)
@[simp] theorem ice_str {b} : ice (.str b) = .str b := (rfl)
@[simp] theorem ice_scr {b} : ice (.scr b) = .scr b := (rfl)
@[simp] theorem ice_kst {b} : ice (.kst b) = .kst b := (rfl)
@[simp] theorem ice_tup {b} : ice (.tup b) = .tup (iceL b) := (rfl)
@[simp] theorem ice_lst {o b} : ice (.lst o b) = .lst false (iceL b) := (rfl)
@[simp] theorem ice_dK {o k b} : ice (.dK o k b) = .dK false k (iceL b) := (rfl)
@[simp] theorem ice_dT {o k b} : ice (.dT o k b) = .dT false k (iceL b) := (rfl)
@[simp] theorem ice_obj {o k f b} : ice (.obj o k f b) = .obj false k f (iceL b) := (rfl)
@[simp] theorem iceL_nil : iceL [] = [] := (rfl)
@[simp] theorem iceL_cons {d ds} : iceL (d :: ds) = ice d :: iceL ds := (rfl)
theorem iceL_eq : ∀ {ds : List D}, iceL ds = ds.map ice
  | [] => rfl
  | d :: ds => by simp [iceL_eq (ds := ds)]
mutual
theorem ice_frz : ∀ d : D, frz d = true → ice d = d
  | .gone, _ | .non, _ | .bl _, _ | .int _, _ | .str _, _ | .scr _, _ | .kst _, _ => rfl
  | .tup ds, h => by rw [ice_tup, iceL_frz ds h]
  | .lst true ds, h => by simp at h
  | .lst false ds, h => by rw [ice_lst, iceL_frz ds (by simpa using h)]
  | .dK true k ds, h => by simp at h
  | .dK false k ds, h => by rw [ice_dK, iceL_frz ds (by simpa using h)]
  | .dT true k ds, h => by simp at h
  | .dT false k ds, h => by rw [ice_dT, iceL_frz ds (by simpa using h)]
  | .obj true k f ds, h => by simp at h
  | .obj false k f ds, h => by rw [ice_obj, iceL_frz ds (by simpa using h)]
theorem iceL_frz : ∀ ds : List D, frzL ds = true → iceL ds = ds
  | [], _ => rfl
  | d :: ds, h => by
    simp at h
    rw [iceL_cons, ice_frz d h.1, iceL_frz ds h.2]
end
@[simp] theorem iceL_map {α : Type} {f : α → D} {xs : List α} : iceL (xs.map f) = xs.map fun x => ice (f x) := by rw [iceL_eq, List.map_map]; rfl
@[simp] theorem iceL_app {a b : List D} : iceL (a ++ b) = iceL a ++ iceL b := by simp [iceL_eq]
mutual
theorem frz_ice : ∀ d : D, frz (ice d) = true
  | .gone | .non | .bl _ | .int _ | .str _ | .scr _ | .kst _ => rfl
  | .tup ds => by simpa using frzL_iceL ds
  | .lst _ ds => by simpa using frzL_iceL ds
  | .dK _ k ds => by simpa using frzL_iceL ds
  | .dT _ k ds => by simpa using frzL_iceL ds
  | .obj _ k f ds => by simpa using frzL_iceL ds
theorem frzL_iceL : ∀ ds : List D, frzL (iceL ds) = true
  | [] => rfl
  | d :: ds => by simp [frz_ice d, frzL_iceL ds]
end

/-! ### equal -/
mutual
theorem toP_ice : ∀ d : D, toP (ice d) = toP d
  | .gone | .non | .bl _ | .int _ | .str _ | .scr _ | .kst _ => rfl
  | .tup ds => by simp only [ice_tup, toP, toPL_iceL ds]
  | .lst _ ds => by simp only [ice_lst, toP, toPL_iceL ds]
  | .dK _ k ds => rfl
  | .dT _ k ds => rfl
  | .obj _ k f ds => rfl
theorem toPL_iceL : ∀ ds : List D, toPL (iceL ds) = toPL ds
  | [] => rfl
  | d :: ds => by simp only [iceL_cons, toPL, toP_ice d, toPL_iceL ds]
end
/-- may be compared, at most n deep -/
def good (n : Nat) (d : D) : Bool := match toP d with
  | some p => p.canLay0 && decide (p.depth ≤ n)
  | none => false
def goodL (n : Nat) : List D → Bool
  | [] => true
  | d :: ds => good n d && goodL n ds
theorem good_some {n : Nat} {d : D} (h : good n d = true) : ∃ p, toP d = some p ∧ p.canLay0 = true ∧ p.depth ≤ n := by
  unfold good at h
  split at h
  · rename_i p e; simp at h; exact ⟨p, e, h.1, h.2⟩
  · cases h
theorem goodL_some {n : Nat} : ∀ {ds : List D}, goodL n ds = true → ∃ ps, toPL ds = some ps ∧ PyData.canLayAll0 ps = true ∧ PyData.depthAll ps ≤ n
  | [], _ => ⟨[], rfl, rfl, Nat.zero_le _⟩
  | d :: ds, h => by
    unfold goodL at h
    simp at h
    obtain ⟨p, e1, e2, e3⟩ := good_some h.1
    obtain ⟨ps, k1, k2, k3⟩ := goodL_some h.2
    refine ⟨p :: ps, by simp [toPL, e1, k1], by simp [PyData.canLayAll0, e2, k2], by simp [PyData.depthAll]; omega⟩
theorem good_lst {n : Nat} {o : Bool} {ds : List D} (h : goodL n ds = true) : good (n + 1) (.lst o ds) = true := by
  obtain ⟨ps, k1, k2, k3⟩ := goodL_some h
  simp [good, toP, k1, PyData.canLay0, k2, PyData.depth, k3]
theorem good_tup {n : Nat} {ds : List D} (h : goodL n ds = true) : good (n + 1) (.tup ds) = true := by
  obtain ⟨ps, k1, k2, k3⟩ := goodL_some h
  simp [good, toP, k1, PyData.canLay0, k2, PyData.depth, k3]
@[simp] theorem good_non {n} : good n .non = true := by simp [good, toP, PyData.canLay0, PyData.depth]
@[simp] theorem good_bl {n b} : good n (.bl b) = true := by simp [good, toP, PyData.canLay0, PyData.depth]
@[simp] theorem good_int {n b} : good n (.int b) = true := by simp [good, toP, PyData.canLay0, PyData.depth]
theorem goodL_iff {n : Nat} : ∀ {ds : List D}, goodL n ds = true ↔ ∀ d ∈ ds, good n d = true
  | [] => by simp [goodL]
  | d :: ds => by simp [goodL, goodL_iff (ds := ds)]
theorem eqB_same {a b : D} (h : ice a = ice b) (g : good 64 a = true) : eqB a b = some true := by
  obtain ⟨p, e1, e2, e3⟩ := good_some g
  have e4 : toP b = some p := by rw [← toP_ice, ← h, toP_ice, e1]
  have s : SeqAt.shaped p = true := by simp [SeqAt.shaped, e2, e3]
  simp [eqB, e1, e4, s, PySem.SeqAt.eqv_refl p e2]
theorem eqD_same {a b : D} (h : ice a = ice b) (g : good 64 a = true) : eqD a b = some (.bl true) := by simp [eqD, eqB_same h g]
theorem neD_same {a b : D} (h : ice a = ice b) (g : good 64 a = true) : neD a b = some (.bl false) := by simp [neD, eqB_same h g]
@[simp] theorem eqB_int {a b : Int} : eqB (.int a) (.int b) = some (a == b) := by simp [eqB, toP, SeqAt.shaped, PyData.canLay0, PyData.depth, PyData.eqv]
@[simp] theorem eqD_int {a b : Int} : eqD (.int a) (.int b) = some (.bl (a == b)) := by simp [eqD]
@[simp] theorem neD_int {a b : Int} : neD (.int a) (.int b) = some (.bl (a != b)) := by simp [neD, bne]
@[simp] theorem good_str {n : Nat} {b : List Nat} : good n (.str b) = b.all (fun k => decide (k < 0x110000)) := by
  simp [good, toP, PyData.canLay0, PyData.depth, PyData.strOk]
theorem goodL_map {α : Type} {n : Nat} {f : α → D} {xs : List α} : goodL n (xs.map f) = true ↔ ∀ x ∈ xs, good n (f x) = true := by simp [goodL_iff]
theorem str_inj {a b : List Nat} : ((⟨a.toArray⟩ : Str) == ⟨b.toArray⟩) = (a == b) := str_beq a b
theorem eqB_str {a b : List Nat} (ha : good 64 (.str a) = true) (hb : good 64 (.str b) = true) : eqB (.str a) (.str b) = some (a == b) := by
  obtain ⟨p, e1, e2, e3⟩ := good_some ha
  obtain ⟨q, k1, k2, k3⟩ := good_some hb
  cases e1; cases k1
  simp [eqB, toP, SeqAt.shaped, e2, e3, k2, k3, PyData.eqv, str_beq]

/-! ### operations -/
@[simp] theorem add_int {a b : Int} : addD (.int a) (.int b) = some (.int (a + b)) := (rfl)
@[simp] theorem sub_int {a b : Int} : subD (.int a) (.int b) = some (.int (a - b)) := (rfl)
@[simp] theorem add_str {a b : List Nat} : addD (.str a) (.str b) = if a.length + b.length ≤ LIM then some (.str (a ++ b)) else none := (rfl)
@[simp] theorem add_lst {o p : Bool} {a b : List D} : addD (.lst o a) (.lst p b) = if (frzL a && frzL b) = true ∧ a.length + b.length ≤ LIM then some (.lst true (a ++ b)) else none := (rfl)
@[simp] theorem add_tup {a b : List D} : addD (.tup a) (.tup b) = if (frzL a && frzL b) = true ∧ a.length + b.length ≤ LIM then some (.tup (a ++ b)) else none := (rfl)
@[simp] theorem mul_int {a b : Int} : mulD (.int a) (.int b) = if (-(2 ^ 64) < a ∧ a < 2 ^ 64) ∨ (-(2 ^ 64) < b ∧ b < 2 ^ 64) then some (.int (a * b)) else none := (rfl)
@[simp] theorem mul_lst {o : Bool} {a : List D} {k : Int} : mulD (.lst o a) (.int k) = if frzL a = true ∧ k ≤ 1000000 ∧ -1000000 ≤ k ∧ a.length * k.toNat ≤ LIM then some (.lst true (List.replicate k.toNat a).flatten) else none := (rfl)
@[simp] theorem mul_str {a : List Nat} {k : Int} : mulD (.str a) (.int k) = if k ≤ 1000000 ∧ -1000000 ≤ k ∧ a.length * k.toNat ≤ LIM then some (.str (List.replicate k.toNat a).flatten) else none := (rfl)
@[simp] theorem fdiv_int {a b : Int} : fdivD (.int a) (.int b) = if 0 < b ∧ b.natAbs.log2 < 9000 then some (.int (a / b)) else none := (rfl)
@[simp] theorem mod_int {a b : Int} : modD (.int a) (.int b) = if 0 < b then some (.int (a % b)) else none := (rfl)
@[simp] theorem pow_int {a b : Int} : powD (.int a) (.int b) = if 0 ≤ b ∧ b ≤ 1000000 ∧ a.natAbs < 2 ^ 64 then some (.int (a ^ b.toNat)) else none := (rfl)
@[simp] theorem neg_int {a : Int} : negD (.int a) = some (.int (-a)) := (rfl)
@[simp] theorem lt_int {a b : Int} : ltD (.int a) (.int b) = some (.bl (decide (a < b))) := (rfl)
@[simp] theorem le_int {a b : Int} : leD (.int a) (.int b) = some (.bl (decide (a ≤ b))) := (rfl)
@[simp] theorem gt_int {a b : Int} : gtD (.int a) (.int b) = some (.bl (decide (b < a))) := (rfl)
@[simp] theorem ge_int {a b : Int} : geD (.int a) (.int b) = some (.bl (decide (b ≤ a))) := (rfl)
@[simp] theorem lt_str {a b : List Nat} : ltD (.str a) (.str b) = some (.bl (decide (a < b))) := (rfl)
@[simp] theorem le_str {a b : List Nat} : leD (.str a) (.str b) = some (.bl (!decide (b < a))) := (rfl)
@[simp] theorem ix_lst {o : Bool} {ds : List D} {i : Int} : ixD (.lst o ds) (.int i) = atI ds i := (rfl)
@[simp] theorem ix_tup {ds : List D} {i : Int} : ixD (.tup ds) (.int i) = atI ds i := (rfl)
@[simp] theorem ix_scr {ds : List Int} {i : Int} : ixD (.scr ds) (.int i) = (atI ds i).map .int := (rfl)
@[simp] theorem ix_str {s : List Nat} {i : Int} : ixD (.str s) (.int i) = if s.length ≤ LIM then (atI s i).map fun k => .str [k] else none := (rfl)
theorem atI_at {α : Type} {xs : List α} {i : Int} (h : 0 ≤ i) (hl : i.toNat < xs.length) : atI xs i = some (xs[i.toNat]) := by
  unfold atI ixN
  have h1 : ¬ i < 0 := by omega
  have h2 : i < xs.length := by omega
  simp [h1, h, h2, hl]
@[simp] theorem atI_0 {α : Type} {x : α} {xs : List α} : atI (x :: xs) 0 = some x := by rw [atI_at (by omega) (by simp)]; rfl
@[simp] theorem atI_1 {α : Type} {x y : α} {xs : List α} : atI (x :: y :: xs) 1 = some y := by rw [atI_at (by omega) (by simp)]; rfl
@[simp] theorem atI_2 {α : Type} {x y z : α} {xs : List α} : atI (x :: y :: z :: xs) 2 = some z := by rw [atI_at (by omega) (by simp)]; rfl
@[simp] theorem atI_3 {α : Type} {x y z u : α} {xs : List α} : atI (x :: y :: z :: u :: xs) 3 = some u := by rw [atI_at (by omega) (by simp)]; rfl
@[simp] theorem atI_4 {α : Type} {x y z u v : α} {xs : List α} : atI (x :: y :: z :: u :: v :: xs) 4 = some v := by rw [atI_at (by omega) (by simp)]; rfl
@[simp] theorem len_tup {ds : List D} : lenD [.tup ds] = some (.int ds.length) := (rfl)
@[simp] theorem len_lst {o : Bool} {ds : List D} : lenD [.lst o ds] = some (.int ds.length) := (rfl)
@[simp] theorem len_scr {ds : List Int} : lenD [.scr ds] = some (.int ds.length) := (rfl)
@[simp] theorem len_dK {o k ds} : lenD [.dK o k ds] = some (.int k.length) := (rfl)
@[simp] theorem len_str {s : List Nat} : lenD [.str s] = if s.length ≤ LIM then some (.int s.length) else none := (rfl)
@[simp] theorem max2_int {i j : Int} : max2D [.int i, .int j] = some (.int (if j > i then j else i)) := (rfl)
@[simp] theorem min2_int {i j : Int} : min2D [.int i, .int j] = some (.int (if j < i then j else i)) := (rfl)
@[simp] theorem intD_int {i : Int} : intD [.int i] = some (.int i) := (rfl)
@[simp] theorem intD_bl {b : Bool} : intD [.bl b] = some (.int (if b then 1 else 0)) := (rfl)
@[simp] theorem sum_lst {o : Bool} {ds : List D} : sumD [.lst o ds] = (intsD ds).map fun is => .int is.sum := (rfl)
@[simp] theorem ints_nil : intsD [] = some [] := (rfl)
@[simp] theorem ints_cons {i : Int} {ds : List D} : intsD (.int i :: ds) = (intsD ds).map fun is => i :: is := (rfl)
@[simp] theorem ints_map {α : Type} {f : α → Int} : ∀ {xs : List α}, intsD (xs.map fun x => .int (f x)) = some (xs.map f)
  | [] => rfl
  | x :: xs => by simp [ints_map (xs := xs)]
@[simp] theorem list_lst {o : Bool} {ds : List D} : listD [.lst o ds] = if frzL ds = true then some (.lst true ds) else none := (rfl)
@[simp] theorem list_tup {ds : List D} : listD [.tup ds] = if frzL ds = true then some (.lst true ds) else none := (rfl)
@[simp] theorem list_scr {ns : List Int} : listD [.scr ns] = some (.lst true (ns.map .int)) := (rfl)
@[simp] theorem tru_bl {b : Bool} : truD (.bl b) = some b := (rfl)
@[simp] theorem tru_non : truD .non = some false := (rfl)
@[simp] theorem tru_int {i : Int} : truD (.int i) = some (i != 0) := (rfl)
@[simp] theorem tru_str {s : List Nat} : truD (.str s) = if s.length ≤ LIM then some (!s.isEmpty) else none := (rfl)
@[simp] theorem tru_tup {s : List D} : truD (.tup s) = some (!s.isEmpty) := (rfl)
@[simp] theorem tru_lst {o : Bool} {s : List D} : truD (.lst o s) = some (!s.isEmpty) := (rfl)
@[simp] theorem tru_scr {s : List Int} : truD (.scr s) = some (!s.isEmpty) := (rfl)
@[simp] theorem ty_non : tyD .non = some "NoneType" := (rfl)
@[simp] theorem ty_bl {b} : tyD (.bl b) = some "bool" := (rfl)
@[simp] theorem ty_int {b} : tyD (.int b) = some "int" := (rfl)
@[simp] theorem ty_str {b} : tyD (.str b) = some "str" := (rfl)
@[simp] theorem ty_scr {b} : tyD (.scr b) = some "list" := (rfl)
@[simp] theorem ty_lst {o b} : tyD (.lst o b) = some "list" := (rfl)
@[simp] theorem ty_tup {b} : tyD (.tup b) = some "tuple" := (rfl)
@[simp] theorem ty_dK {o k b} : tyD (.dK o k b) = some "dict" := (rfl)
@[simp] theorem ty_dT {o k b} : tyD (.dT o k b) = some "dict" := (rfl)
@[simp] theorem in_1 {k : Nat} {z : List Nat} : inB (.str [k]) (.str z) = some (decide (k ∈ z)) := (rfl)
@[simp] theorem inD_eq {x y : D} : inD x y = (inB x y).map .bl := (rfl)
@[simp] theorem ninD_eq {x y : D} : ninD x y = (inB x y).map fun k => .bl (!k) := (rfl)
@[simp] theorem itemsV_lst {o : Bool} {ds : List D} : itemsV (.lst o ds) = if frzL ds = true then some ds else none := (rfl)
@[simp] theorem itemsV_tup {ds : List D} : itemsV (.tup ds) = if frzL ds = true then some ds else none := (rfl)
@[simp] theorem itemsV_scr {ds : List Int} : itemsV (.scr ds) = some (ds.map .int) := (rfl)
@[simp] theorem itemsV_str {s : List Nat} : itemsV (.str s) = some (s.map fun k => .str [k]) := (rfl)
@[simp] theorem items_lst {ds : List D} : itemsD (.lst false ds) = if frzL ds = true then some ds else none := (rfl)
@[simp] theorem items_tup {ds : List D} : itemsD (.tup ds) = if frzL ds = true then some ds else none := (rfl)
@[simp] theorem items_scr {ds : List Int} : itemsD (.scr ds) = some (ds.map .int) := (rfl)
@[simp] theorem items_str {s : List Nat} : itemsD (.str s) = some (s.map fun k => .str [k]) := (rfl)
@[simp] theorem lstD_lst {ds : List D} : lstD (.lst false ds) = if frzL ds = true then some ds else none := (rfl)
@[simp] theorem lstD_scr {ds : List Int} : lstD (.scr ds) = some (ds.map .int) := (rfl)
@[simp] theorem sl_lst {o : Bool} {lo hi : Option Int} {ds : List D} : slD lo hi (.lst o ds) = if frzL ds = true then some (.lst true (cutL ds lo hi)) else none := (rfl)
@[simp] theorem sl_tup {lo hi : Option Int} {ds : List D} : slD lo hi (.tup ds) = if frzL ds = true then some (.tup (cutL ds lo hi)) else none := (rfl)
@[simp] theorem sl_scr {lo hi : Option Int} {ds : List Int} : slD lo hi (.scr ds) = some (.lst true ((cutL ds lo hi).map .int)) := (rfl)
@[simp] theorem sl_str {lo hi : Option Int} {ds : List Nat} : slD lo hi (.str ds) = if ds.length ≤ LIM then some (.str (cutL ds lo hi)) else none := (rfl)
theorem cut_to {α : Type} {xs : List α} {k : Int} (h : 0 ≤ k) : cutL xs none (some k) = xs.take k.toNat := by
  have : HT.sIx xs.length xs.length (some k) = min k.toNat xs.length := by
    unfold HT.sIx
    split <;> rename_i e <;> cases e <;> first | omega | (simp; omega) | skip
  unfold cutL
  rw [this]
  have e0 : HT.sIx xs.length 0 none = 0 := rfl
  rw [e0, List.drop_zero, Nat.sub_zero]
  rcases Nat.le_total k.toNat xs.length with q | q
  · rw [Nat.min_eq_left q]
  · rw [Nat.min_eq_right q, List.take_length, List.take_of_length_le q]
theorem cut_from {α : Type} {xs : List α} {k : Int} (h : 0 ≤ k) : cutL xs (some k) none = xs.drop k.toNat := by
  have : HT.sIx xs.length 0 (some k) = min k.toNat xs.length := by
    unfold HT.sIx
    split <;> rename_i e <;> cases e <;> first | omega | (simp; omega) | skip
  unfold cutL
  rw [this]
  have e0 : HT.sIx xs.length xs.length none = xs.length := rfl
  rw [e0]
  rcases Nat.le_total k.toNat xs.length with q | q
  · rw [Nat.min_eq_left q]; exact List.take_of_length_le (by simp)
  · rw [Nat.min_eq_right q]; simp [List.drop_of_length_le q]
theorem cut_fromto {α : Type} {xs : List α} {k j : Int} (h : 0 ≤ k) (h2 : 0 ≤ j) : cutL xs (some k) (some j) = (xs.drop k.toNat).take (j.toNat - k.toNat) := by
  have e1 : HT.sIx xs.length 0 (some k) = min k.toNat xs.length := by
    unfold HT.sIx
    split <;> rename_i e <;> cases e <;> first | omega | (simp; omega) | skip
  have e2 : HT.sIx xs.length xs.length (some j) = min j.toNat xs.length := by
    unfold HT.sIx
    split <;> rename_i e <;> cases e <;> first | omega | (simp; omega) | skip
  unfold cutL
  rw [e1, e2]
  rcases Nat.le_total k.toNat xs.length with q | q
  · rw [Nat.min_eq_left q]
    rcases Nat.le_total j.toNat xs.length with q2 | q2
    · rw [Nat.min_eq_left q2]
    · rw [Nat.min_eq_right q2, List.take_of_length_le (by simp), List.take_of_length_le (by simp; omega)]
  · rw [Nat.min_eq_right q]; simp [List.drop_of_length_le q]

/-! ### statements -/
theorem seq_nx {a b : SM} {ρ ρ1 : List D} (h : a ρ = some (.nx, ρ1)) : seqM a b ρ = b ρ1 := by simp [seqM, h]
theorem seq_rt {a b : SM} {ρ ρ1 : List D} {d : D} (h : a ρ = some (.rt d, ρ1)) : seqM a b ρ = some (.rt d, ρ1) := by simp [seqM, h]
theorem run_eq {n : Nat} {kp : List Bool} {m : SM} {ds ρ' : List D} {d : D} (hl : ds.length = kp.length) (h : m (ds ++ List.replicate (n - ds.length) .gone) = some (.rt d, ρ')) : runM n kp m ds = some (d, maskL kp ρ') := by unfold runM; rw [if_pos hl, h]; rfl
theorem run_nx {n : Nat} {kp : List Bool} {m : SM} {ds ρ' : List D} (hl : ds.length = kp.length) (h : m (ds ++ List.replicate (n - ds.length) .gone) = some (.nx, ρ')) : runM n kp m ds = some (.non, maskL kp ρ') := by unfold runM; rw [if_pos hl, h]; rfl
section
variable {f : TgM} {body : SM} {kl : List Nat}
/-- a loop that goes through to its end -/
theorem for_fold {α β : Type} (enc : α → D) (env : β → List D) (step : β → α → β) (Inv : β → Prop) : ∀ (xs : List α) (s : β), Inv s → (∀ s, Inv s → ∀ x ∈ xs, Inv (step s x) ∧ ∃ ρ1 fl ρ2, f (enc x) (env s) = some ρ1 ∧ body ρ1 = some (fl, ρ2) ∧ (fl = .nx ∨ fl = .ct) ∧ goneAt ρ2 kl = env (step s x)) →
    forL f body kl (xs.map enc) (env s) = some (.nx, env (xs.foldl step s)) ∧ Inv (xs.foldl step s)
  | [], s, hi, _ => ⟨rfl, hi⟩
  | x :: xs, s, hi, h => by
    obtain ⟨h1, ρ1, fl, ρ2, e1, e2, e3, e4⟩ := h s hi x (by simp)
    have ih := for_fold enc env step Inv xs (step s x) h1 fun s hs y hy => h s hs y (by simp [hy])
    refine ⟨?_, ih.2⟩
    rw [List.map_cons, List.foldl_cons]
    unfold forL
    rw [e1, Option.bind_some, e2, Option.bind_some]
    rcases e3 with rfl | rfl
    · simp only [e4]; exact ih.1
    · simp only [e4]; exact ih.1
/-- a comprehension -/
theorem comp_eq {α : Type} {mc : BM} {me : RM} {ρ0 : List D} (enc : α → D) (p : α → Bool) (g : α → D) : ∀ (xs : List α), (∀ x ∈ xs, ∃ ρ1, f (enc x) ρ0 = some ρ1 ∧ mc ρ1 = some (p x) ∧ (p x = true → me ρ1 = some (g x) ∧ frz (g x) = true)) →
    compL f mc me ρ0 (xs.map enc) = some ((xs.filter p).map g)
  | [], _ => rfl
  | x :: xs, h => by
    obtain ⟨ρ1, e1, e2, e3⟩ := h x (by simp)
    have ih := comp_eq enc p g xs fun y hy => h y (by simp [hy])
    rw [List.map_cons]
    unfold compL
    rw [e1, Option.bind_some, e2, Option.bind_some]
    cases hp : p x with
    | true =>
      obtain ⟨k1, k2⟩ := e3 hp
      simp [k1, k2, ih, hp]
    | false => simp [ih, hp]
theorem comp_all {α : Type} {me : RM} {ρ0 : List D} (enc : α → D) (g : α → D) (xs : List α) (h : ∀ x ∈ xs, ∃ ρ1, f (enc x) ρ0 = some ρ1 ∧ me ρ1 = some (g x) ∧ frz (g x) = true) : compL f yesB me ρ0 (xs.map enc) = some (xs.map g) := by
  have := comp_eq (f := f) (mc := yesB) (me := me) (ρ0 := ρ0) enc (fun _ => true) g xs fun x hx => by
    obtain ⟨ρ1, e1, e2, e3⟩ := h x hx
    exact ⟨ρ1, e1, rfl, fun _ => ⟨e2, e3⟩⟩
  rw [this]; congr 2; simp
end

end LI
namespace LI
open PySem L2

/-! ### the laws' own numbers -/
def mixM : SM := (seqM (ifM (bM (m2 gtD (vM 0) (m2 powD (kM (.int 10)) (kM (.int 18))))) (seqM (asgM (nameT 2) (upR (vM 0)))
  (seqM (forM (nameT 3) (asgM (nameT 2) (upF (m2 fdivD (vM 2) (m2 powD (kM (.int 10)) (kM (.int 9)))))) [3] (rng1M (vM 1)))
  (retM (upF (m2 modD (vM 2) (m2 powD (kM (.int 10)) (kM (.int 9)))))))) skipM)
  (seqM (asgM (nameT 4) (upF (coldM (m2 addD (m2 modD (vM 0) (kM (.int 2147483647))) (kM (.int 7919))))))
  (seqM (forM (nameT 3) (asgM (nameT 4) (upF (m2 modD (m2 addD (m2 mulD (vM 4) (kM (.int 48271))) (kM (.int 104729))) (kM (.int 2147483629))))) [3] (rng1M (m2 addD (vM 1) (kM (.int 2)))))
  (retM (upF (m2 fdivD (m2 modD (m2 mulD (vM 4) (vM 4)) (kM (.int 998244353))) (kM (.int 11))))))))
def mixF : FM := runM 5 [true, true] mixM
def mixBig : Nat → Int → Int
  | 0, r => r
  | n + 1, r => mixBig n (r / 1000000000)
def mixSmall : Nat → Int → Int
  | 0, r => r
  | n + 1, r => mixSmall n ((r * 48271 + 104729) % 2147483629)
def mixv (c : Int) (k : Nat) : Int := if c > 1000000000000000000 then mixBig k c % 1000000000 else let n := mixSmall (k + 2) (c % 2147483647 + 7919); n * n % 998244353 / 11
theorem mixv_pos (c : Int) (k : Nat) : 0 ≤ mixv c k := by
  unfold mixv
  split
  · omega
  · dsimp only
    generalize mixSmall (k + 2) (c % 2147483647 + 7919) * mixSmall (k + 2) (c % 2147483647 + 7919) = z
    omega
theorem mixv_lt (c : Int) (k : Nat) : mixv c k < 1000000000 := by
  unfold mixv
  split
  · omega
  · dsimp only
    generalize mixSmall (k + 2) (c % 2147483647 + 7919) * mixSmall (k + 2) (c % 2147483647 + 7919) = z
    omega
theorem mixSmall_in : ∀ (n : Nat) (r : Int), 0 ≤ r → r < 4294967296 → 0 ≤ mixSmall n r ∧ mixSmall n r < 4294967296
  | 0, r, h1, h2 => ⟨h1, h2⟩
  | n + 1, r, h1, h2 => mixSmall_in n _ (by omega) (by omega)
theorem upD_eq (lo : Int) (n : Nat) : upD lo n = (List.range n).map fun (k : Nat) => D.int (lo + (k : Int)) := rfl
theorem fold_big (r : Int) : ∀ n : Nat, (List.range n).foldl (fun s (_ : Nat) => s / 1000000000) r = mixBig n r := by
  intro n
  have : ∀ (xs : List Nat) (r : Int), xs.foldl (fun s (_ : Nat) => s / 1000000000) r = mixBig xs.length r := by
    intro xs
    induction xs with
    | nil => intro r; rfl
    | cons x xs ih => intro r; rw [List.foldl_cons, ih]; rfl
  rw [this, List.length_range]
theorem fold_small (r : Int) : ∀ n : Nat, (List.range n).foldl (fun s (_ : Nat) => (s * 48271 + 104729) % 2147483629) r = mixSmall n r := by
  intro n
  have : ∀ (xs : List Nat) (r : Int), xs.foldl (fun s (_ : Nat) => (s * 48271 + 104729) % 2147483629) r = mixSmall xs.length r := by
    intro xs
    induction xs with
    | nil => intro r; rfl
    | cons x xs ih => intro r; rw [List.foldl_cons, ih]; rfl
  rw [this, List.length_range]
theorem log_9 : Nat.log2 1000000000 < 9000 := by decide +kernel
theorem log_11 : Nat.log2 11 < 9000 := by decide +kernel
def mixStepA : SM := asgM (nameT 2) (upF (m2 fdivD (vM 2) (m2 powD (kM (.int 10)) (kM (.int 9)))))
def mixStepB : SM := asgM (nameT 4) (upF (m2 modD (m2 addD (m2 mulD (vM 4) (kM (.int 48271))) (kM (.int 104729))) (kM (.int 2147483629))))
theorem pow_109 : powD (.int 10) (.int 9) = some (.int 1000000000) := by simp
theorem pow_1018 : powD (.int 10) (.int 18) = some (.int 1000000000000000000) := by simp
theorem fdiv_109 (a : Int) : fdivD (.int a) (.int 1000000000) = some (.int (a / 1000000000)) := by
  rw [fdiv_int, if_pos ⟨by omega, log_9⟩]
theorem fdiv_11 (a : Int) : fdivD (.int a) (.int 11) = some (.int (a / 11)) := by
  rw [fdiv_int, if_pos ⟨by omega, log_11⟩]
theorem mixA_one (c k s x : Int) : mixStepA [.int c, .int k, .int s, .int x, .gone] = some (.nx, [.int c, .int k, .int (s / 1000000000), .int x, .gone]) := by
  simp [mixStepA, asgM, pow_109, fdiv_109, -pow_int, -fdiv_int]
theorem mixB_one (c k s x : Int) : mixStepB [.int c, .int k, .gone, .int x, .int s] = some (.nx, [.int c, .int k, .gone, .int x, .int ((s * 48271 + 104729) % 2147483629)]) := by
  simp [mixStepB, asgM]
theorem mixA_for (c : Int) (k : Nat) : forL (nameT 3) mixStepA [3] (upD 0 k) [.int c, .int k, .int c, .gone, .gone] = some (.nx, [.int c, .int k, .int (mixBig k c), .gone, .gone]) := by
  have := (for_fold (f := nameT 3) (kl := [3]) (body := mixStepA) (fun (j : Nat) => D.int (0 + (j : Int))) (fun (s : Int) => [.int c, .int k, .int s, .gone, .gone]) (fun s (_ : Nat) => s / 1000000000) (fun _ => True) (List.range k) c trivial fun s _ x _ => ⟨trivial, _, _, _, ev_name, mixA_one c k s _, .inl rfl, rfl⟩).1
  rw [fold_big] at this
  exact this
theorem mixB_for (c s0 : Int) (k j : Nat) : forL (nameT 3) mixStepB [3] (upD 0 j) [.int c, .int k, .gone, .gone, .int s0] = some (.nx, [.int c, .int k, .gone, .gone, .int (mixSmall j s0)]) := by
  have := (for_fold (f := nameT 3) (kl := [3]) (body := mixStepB) (fun (j : Nat) => D.int (0 + (j : Int))) (fun (s : Int) => [.int c, .int k, .gone, .gone, .int s]) (fun s (_ : Nat) => (s * 48271 + 104729) % 2147483629) (fun _ => True) (List.range j) s0 trivial fun s _ x _ => ⟨trivial, _, _, _, ev_name, mixB_one c k s _, .inl rfl, rfl⟩).1
  rw [fold_small] at this
  exact this
theorem mixM_eq : mixM = (seqM (ifM (bM (m2 gtD (vM 0) (m2 powD (kM (.int 10)) (kM (.int 18))))) (seqM (asgM (nameT 2) (upR (vM 0)))
  (seqM (forM (nameT 3) mixStepA [3] (rng1M (vM 1)))
  (retM (upF (m2 modD (vM 2) (m2 powD (kM (.int 10)) (kM (.int 9)))))))) skipM)
  (seqM (asgM (nameT 4) (upF (coldM (m2 addD (m2 modD (vM 0) (kM (.int 2147483647))) (kM (.int 7919))))))
  (seqM (forM (nameT 3) mixStepB [3] (rng1M (m2 addD (vM 1) (kM (.int 2)))))
  (retM (upF (m2 fdivD (m2 modD (m2 mulD (vM 4) (vM 4)) (kM (.int 998244353))) (kM (.int 11)))))))) := rfl
theorem mix_big (c : Int) (k : Nat) (hk : k ≤ 1000000) (hc : c > 1000000000000000000) : mixM [.int c, .int k, .gone, .gone, .gone] = some (.rt (.int (mixBig k c % 1000000000)), [.int c, .int k, .int (mixBig k c), .gone, .gone]) := by
  rw [mixM_eq]
  have hc' : (1000000000000000000 : Int) < c := hc
  have hk2 : rng1D (.int k) = some (upD 0 k) := rng1_nat (by omega)
  simp -implicitDefEqProofs [ifM, seqM, asgM, retM, forM, hc', hk2, mixA_for, pow_109, pow_1018, -pow_int]
theorem mix_small (c : Int) (k : Nat) (hk : k ≤ 1000000) (hc : ¬ c > 1000000000000000000) : mixM [.int c, .int k, .gone, .gone, .gone] = some (.rt (.int (mixSmall (k + 2) (c % 2147483647 + 7919) * mixSmall (k + 2) (c % 2147483647 + 7919) % 998244353 / 11)), [.int c, .int k, .gone, .gone, .int (mixSmall (k + 2) (c % 2147483647 + 7919))]) := by
  rw [mixM_eq]
  have hc' : ¬ (1000000000000000000 : Int) < c := hc
  have h0 := mixSmall_in (k + 2) (c % 2147483647 + 7919) (by omega) (by omega)
  have hk2 : rng1D (.int ((k : Int) + 2)) = some (upD 0 (k + 2)) := by rw [rng1_int (by omega) (by omega), show ((k : Int) + 2).toNat = k + 2 by omega]
  have hm : (-18446744073709551616 < mixSmall (k + 2) (c % 2147483647 + 7919) ∧ mixSmall (k + 2) (c % 2147483647 + 7919) < 18446744073709551616) := by omega
  simp -implicitDefEqProofs [ifM, seqM, asgM, retM, forM, skipM, hc', hk2, mixB_for, hm, pow_1018, fdiv_11, -pow_int, -fdiv_int]
theorem mix_eq (c : Int) (k : Nat) (hk : k ≤ 1000000) : mixF [.int c, .int k] = some (.int (mixv c k), [.int c, .int k]) := by
  by_cases hc : c > 1000000000000000000
  · have e : mixv c k = mixBig k c % 1000000000 := by unfold mixv; rw [if_pos hc]
    rw [e]
    exact run_eq (n := 5) (kp := [true, true]) (ds := [.int c, .int k]) rfl (mix_big c k hk hc)
  · have e : mixv c k = mixSmall (k + 2) (c % 2147483647 + 7919) * mixSmall (k + 2) (c % 2147483647 + 7919) % 998244353 / 11 := by unfold mixv; rw [if_neg hc]
    rw [e]
    exact run_eq (n := 5) (kp := [true, true]) (ds := [.int c, .int k]) rfl (mix_small c k hk hc)

/-- a loop that goes through to its end; r is how many are still to come -/
theorem for_foldI {α β : Type} {f : TgM} {body : SM} {kl : List Nat} (enc : α → D) (env : β → List D) (step : β → α → β) (Inv : Nat → β → Prop) : ∀ (xs : List α) (s : β), Inv xs.length s → (∀ r s, Inv (r + 1) s → ∀ x ∈ xs, Inv r (step s x) ∧ ∃ ρ1 fl ρ2, f (enc x) (env s) = some ρ1 ∧ body ρ1 = some (fl, ρ2) ∧ (fl = .nx ∨ fl = .ct) ∧ goneAt ρ2 kl = env (step s x)) →
    forL f body kl (xs.map enc) (env s) = some (.nx, env (xs.foldl step s)) ∧ Inv 0 (xs.foldl step s)
  | [], s, hi, _ => ⟨rfl, hi⟩
  | x :: xs, s, hi, h => by
    obtain ⟨h1, ρ1, fl, ρ2, e1, e2, e3, e4⟩ := h xs.length s hi x (by simp)
    have ih := for_foldI (f := f) (body := body) (kl := kl) enc env step Inv xs (step s x) h1 fun r s hs y hy => h r s hs y (by simp [hy])
    refine ⟨?_, ih.2⟩
    rw [List.map_cons, List.foldl_cons]
    unfold forL
    rw [e1, Option.bind_some, e2, Option.bind_some]
    rcases e3 with rfl | rfl
    · simp only [e4]; exact ih.1
    · simp only [e4]; exact ih.1
theorem fold_app {α β : Type} (g : α → β) : ∀ (xs : List α) (acc : List β), xs.foldl (fun s x => s ++ [g x]) acc = acc ++ xs.map g
  | [], acc => by simp
  | x :: xs, acc => by rw [List.foldl_cons, fold_app g xs]; simp
theorem for_at {f : TgM} {body : SM} {kl : List Nat} {ms : AM} {ρ ds : List D} (h : ms ρ = some ds) : forM f body kl ms ρ = forL f body kl ds ρ := by
  unfold forM; rw [h]; rfl
/-- a law's list, and the things it is made of -/
theorem scr_at {ns : List Int} {k : Nat} (h : k < ns.length) : (atI ns (k : Int)).map D.int = some (D.int ns[k]) := by
  rw [atI_at (by omega) (by simpa using h)]; rfl
def cellF : FM := runM 2 [true, true] (seqM (ifM (bM (m2 ltD (vM 1) (mA lenD (consM (vM 0) nilM)))) (retM (upR (m2 ixD (vM 0) (vM 1)))) skipM)
  (retM (upF (kM (.int 0)))))
theorem cell_eq (ns : List Int) (k : Nat) : cellF [.scr ns, .int k] = some (.int (ns.getD k 0), [.scr ns, .int k]) := by
  unfold cellF
  refine run_eq (ρ' := [.scr ns, .int k]) rfl ?_
  by_cases h : k < ns.length
  · refine seq_rt ?_
    simp -implicitDefEqProofs [ifM, retM, h, atI_at, List.getD_eq_getElem?_getD]
  · rw [seq_nx (ρ1 := [.scr ns, .int k]) (by simp -implicitDefEqProofs [ifM, skipM, h])]
    simp -implicitDefEqProofs [retM, h, List.getD_eq_getElem?_getD]
theorem upD0 (n : Nat) : upD 0 n = (List.range n).map fun (k : Nat) => D.int (k : Int) := by
  rw [upD_eq]; simp
theorem atI_nat {α : Type} {xs : List α} {k : Nat} (h : k < xs.length) : atI xs (k : Int) = some xs[k] := atI_at (by omega) (by simpa using h)
theorem rng_script {ns : List Int} {K : Int} {i : Nat} {ρ : List D} (h0 : 0 ≤ K) (h1 : K ≤ 1000000) (h : ρ[i]? = some (.scr ns)) : rng1M (mA lenD (consM (slM (vM i) noM (soM (kM (.int K)))) nilM)) ρ = some (upD 0 (min K.toNat ns.length)) := by
  have e : (mA lenD (consM (slM (vM i) noM (soM (kM (.int K)))) nilM)) ρ = some (.int ((min K.toNat ns.length : Nat) : Int)) := by
    rw [ev_mA, ev_cons, ev_slM, ev_v, h]
    simp -implicitDefEqProofs only [Option.bind_some, ng_scr, if_true, ev_noM, ev_soM, ev_k, sl_scr, ev_nil, Option.map_some, len_lst, List.length_map, cut_to h0, List.length_take]
  rw [ev_rng1, e, Option.bind_some, rng1_nat (by omega)]
theorem comp_at {vs : List Nat} {f : TgM} {mc : BM} {me : RM} {ms : AM} {ρ ds ys : List D} (h : ms ρ = some ds) (hl : ds.length ≤ LIM) (hc : compL f mc me (goneAt ρ vs) ds = some ys) : compM vs f mc me ms ρ = some (.lst true ys) := by
  rw [ev_comp, h, Option.bind_some, if_pos hl, hc]; rfl
theorem upD_len (lo : Int) (n : Nat) : (upD lo n).length = n := by rw [upD_eq]; simp
theorem asg_at {f : TgM} {g : GM} {ρ ρ1 ρ2 : List D} {d : D} (h : g ρ = some (d, ρ1)) (hf : f d ρ1 = some ρ2) : asgM f g ρ = some (.nx, ρ2) := by
  unfold asgM; rw [h, Option.bind_some, hf]; rfl
theorem ice_at {i : Nat} {m : SM} {ρ ρ1 : List D} (h : m ρ = some (.nx, ρ1)) : iceM i m ρ = some (.nx, iceAt i ρ1) := by
  unfold iceM; rw [h]; rfl
theorem upF_at {m : RM} {ρ : List D} {d : D} (h : m ρ = some d) : upF m ρ = some (d, ρ) := by rw [ev_upF, h]; rfl
theorem ret_at {g : GM} {ρ ρ1 : List D} {d : D} (h : g ρ = some (d, ρ1)) : retM g ρ = some (.rt d, ρ1) := by unfold retM; rw [h]; rfl
theorem if_F {mc : BM} {a b : SM} {ρ : List D} (h : mc ρ = some false) : ifM mc a b ρ = b ρ := by unfold ifM; rw [h]; rfl
theorem if_T {mc : BM} {a b : SM} {ρ : List D} (h : mc ρ = some true) : ifM mc a b ρ = a ρ := by unfold ifM; rw [h]; rfl
theorem if_no {mc : BM} {a : SM} {ρ : List D} (h : mc ρ = some false) : ifM mc a skipM ρ = some (.nx, ρ) := by rw [if_F h]; rfl
@[simp] theorem kit_int_int : kitB "int" "int" = some true := by decide +kernel
@[simp] theorem kit_int_bool : kitB "int" "bool" = some false := by decide +kernel
@[simp] theorem kit_int_str : kitB "int" "str" = some false := by decide +kernel
@[simp] theorem kit_int_list : kitB "int" "list" = some false := by decide +kernel
@[simp] theorem kit_int_tuple : kitB "int" "tuple" = some false := by decide +kernel
@[simp] theorem kit_int_dict : kitB "int" "dict" = some false := by decide +kernel
@[simp] theorem kit_bool_int : kitB "bool" "int" = some true := by decide +kernel
@[simp] theorem kit_bool_bool : kitB "bool" "bool" = some true := by decide +kernel
@[simp] theorem kit_bool_str : kitB "bool" "str" = some false := by decide +kernel
@[simp] theorem kit_bool_list : kitB "bool" "list" = some false := by decide +kernel
@[simp] theorem kit_bool_tuple : kitB "bool" "tuple" = some false := by decide +kernel
@[simp] theorem kit_bool_dict : kitB "bool" "dict" = some false := by decide +kernel
@[simp] theorem kit_str_int : kitB "str" "int" = some false := by decide +kernel
@[simp] theorem kit_str_bool : kitB "str" "bool" = some false := by decide +kernel
@[simp] theorem kit_str_str : kitB "str" "str" = some true := by decide +kernel
@[simp] theorem kit_str_list : kitB "str" "list" = some false := by decide +kernel
@[simp] theorem kit_str_tuple : kitB "str" "tuple" = some false := by decide +kernel
@[simp] theorem kit_str_dict : kitB "str" "dict" = some false := by decide +kernel
@[simp] theorem kit_list_int : kitB "list" "int" = some false := by decide +kernel
@[simp] theorem kit_list_bool : kitB "list" "bool" = some false := by decide +kernel
@[simp] theorem kit_list_str : kitB "list" "str" = some false := by decide +kernel
@[simp] theorem kit_list_list : kitB "list" "list" = some true := by decide +kernel
@[simp] theorem kit_list_tuple : kitB "list" "tuple" = some false := by decide +kernel
@[simp] theorem kit_list_dict : kitB "list" "dict" = some false := by decide +kernel
@[simp] theorem kit_tuple_int : kitB "tuple" "int" = some false := by decide +kernel
@[simp] theorem kit_tuple_bool : kitB "tuple" "bool" = some false := by decide +kernel
@[simp] theorem kit_tuple_str : kitB "tuple" "str" = some false := by decide +kernel
@[simp] theorem kit_tuple_list : kitB "tuple" "list" = some false := by decide +kernel
@[simp] theorem kit_tuple_tuple : kitB "tuple" "tuple" = some true := by decide +kernel
@[simp] theorem kit_tuple_dict : kitB "tuple" "dict" = some false := by decide +kernel
@[simp] theorem kit_dict_int : kitB "dict" "int" = some false := by decide +kernel
@[simp] theorem kit_dict_bool : kitB "dict" "bool" = some false := by decide +kernel
@[simp] theorem kit_dict_str : kitB "dict" "str" = some false := by decide +kernel
@[simp] theorem kit_dict_list : kitB "dict" "list" = some false := by decide +kernel
@[simp] theorem kit_dict_tuple : kitB "dict" "tuple" = some false := by decide +kernel
@[simp] theorem kit_dict_dict : kitB "dict" "dict" = some true := by decide +kernel
@[simp] theorem kit_NoneType_int : kitB "NoneType" "int" = some false := by decide +kernel
@[simp] theorem kit_NoneType_bool : kitB "NoneType" "bool" = some false := by decide +kernel
@[simp] theorem kit_NoneType_str : kitB "NoneType" "str" = some false := by decide +kernel
@[simp] theorem kit_NoneType_list : kitB "NoneType" "list" = some false := by decide +kernel
@[simp] theorem kit_NoneType_tuple : kitB "NoneType" "tuple" = some false := by decide +kernel
@[simp] theorem kit_NoneType_dict : kitB "NoneType" "dict" = some false := by decide +kernel
@[simp] theorem lim_ge (n : Nat) : (OfNat.ofNat n : Nat) ≤ LIM ↔ n ≤ 1000000 := Iff.rfl
@[simp] theorem lim_0 : 0 ≤ LIM := by decide
@[simp] theorem lim_1 : 1 ≤ LIM := by decide
end LI
/-! LS: what many laws build: cells, streams, runs of signs, letters. -/
namespace LI
open PySem L2

theorem log_2 : Nat.log2 2 < 9000 := by decide +kernel
@[simp] theorem fdiv_lit2 (a : Int) : fdivD (.int a) (.int 2) = some (.int (a / 2)) := by rw [fdiv_int, if_pos ⟨by omega, log_2⟩]
theorem in_64 {a : Int} (h1 : -1000000000000000000 ≤ a) (h2 : a ≤ 1000000000000000000) : (-(2 ^ 64) < a ∧ a < 2 ^ 64) := ⟨by omega, by omega⟩
theorem mul_ok {a b : Int} (h1 : -1000000000000000000 ≤ a) (h2 : a ≤ 1000000000000000000) : mulD (.int a) (.int b) = some (.int (a * b)) := by rw [mul_int, if_pos (.inl (in_64 h1 h2))]
theorem mul_ok2 {a b : Int} (h1 : -1000000000000000000 ≤ b) (h2 : b ≤ 1000000000000000000) : mulD (.int a) (.int b) = some (.int (a * b)) := by rw [mul_int, if_pos (.inr (in_64 h1 h2))]
theorem mul_48271 (a : Int) : mulD (.int a) (.int 48271) = some (.int (a * 48271)) := mul_ok2 (by decide) (by decide)
theorem mul_7919 (a : Int) : mulD (.int a) (.int 7919) = some (.int (a * 7919)) := mul_ok2 (by decide) (by decide)
theorem mul_7l (a : Int) : mulD (.int 7) (.int a) = some (.int (7 * a)) := mul_ok (by decide) (by decide)
theorem mod_pos {a b : Int} (h : 0 < b) : modD (.int a) (.int b) = some (.int (a % b)) := by rw [mod_int, if_pos h]

/-! ### a cell, or what stands for it -/
def cell2F : FM := runM 3 [true, true] (seqM (ifM (bM (m2 ltD (vM 1) (mA lenD (consM (vM 0) nilM)))) (retM (upR (m2 ixD (vM 0) (vM 1)))) skipM)
  (seqM (asgM (nameT 2) (upF (coldM (m2 addD (m2 mulD (m2 mulD (vM 1) (vM 1)) (kM (.int 7919))) (kM (.int 104729))))))
  (seqM (ifM (bM (m2 gtD (mA lenD (consM (vM 0) nilM)) (kM (.int 0)))) (asgM (nameT 2) (upF (coldM (m2 addD (vM 2) (m2 mulD (m2 modD (m2 ixD (vM 0) (m2 modD (vM 1) (mA lenD (consM (vM 0) nilM)))) (kM (.int 1000003))) (kM (.int 48271))))))) skipM)
  (retM (upF (m2 modD (m2 mulD (vM 2) (kM (.int 48271))) (kM (.int 2147483647))))))))
theorem cell2_ex (ns : List Int) (k : Nat) (hk : k ≤ 1000000) : ∃ c, cell2F [.scr ns, .int k] = some (.int c, [.scr ns, .int k]) := by
  have hk2 : mulD (.int (k : Int)) (.int (k : Int)) = some (.int ((k : Int) * k)) := mul_ok (by omega) (by omega)
  by_cases h : k < ns.length
  · refine ⟨ns[k], ?_⟩
    unfold cell2F
    refine run_eq (ρ' := [.scr ns, .int k, .gone]) rfl ?_
    refine seq_rt ?_
    simp -implicitDefEqProofs [ifM, retM, h, atI_nat h]
  · by_cases h0 : 0 < ns.length
    · have hj : ((k : Int) % (ns.length : Int)).toNat < ns.length := by
        have := Int.emod_lt_of_pos (k : Int) (show (0 : Int) < ns.length by omega)
        have := Int.emod_nonneg (k : Int) (show (ns.length : Int) ≠ 0 by omega)
        omega
      have hj0 := Int.emod_nonneg (k : Int) (show (ns.length : Int) ≠ 0 by omega)
      have h0' : (0 : Int) < ns.length := by omega
      have hat := atI_at (xs := ns) hj0 hj
      unfold cell2F
      refine ⟨((((k : Int) * k * 7919 + 104729) + ns[((k : Int) % (ns.length : Int)).toNat] % 1000003 * 48271) * 48271) % 2147483647, run_eq (ρ' := [.scr ns, .int k, .int (((k : Int) * k * 7919 + 104729) + ns[((k : Int) % (ns.length : Int)).toNat] % 1000003 * 48271)]) rfl ?_⟩
      show seqM _ _ [.scr ns, .int k, .gone] = _
      rw [seq_nx (ρ1 := [.scr ns, .int k, .gone]) (by simp -implicitDefEqProofs [ifM, skipM, h])]
      rw [seq_nx (ρ1 := [.scr ns, .int k, .int ((k : Int) * k * 7919 + 104729)]) (by simp -implicitDefEqProofs [asgM, -mul_int, hk2, mul_7919])]
      rw [seq_nx (ρ1 := [.scr ns, .int k, .int (((k : Int) * k * 7919 + 104729) + ns[((k : Int) % (ns.length : Int)).toNat] % 1000003 * 48271)]) (by
        rw [if_T (by simp -implicitDefEqProofs [h0])]
        simp -implicitDefEqProofs [asgM, -mul_int, -mod_int, mod_pos h0', hat, mod_pos, mul_48271])]
      simp -implicitDefEqProofs [retM, -mul_int, mul_48271]
    · have hn : ns = [] := List.eq_nil_of_length_eq_zero (by omega)
      subst hn
      unfold cell2F
      refine ⟨(((k : Int) * k * 7919 + 104729) * 48271) % 2147483647, run_eq (ρ' := [.scr [], .int k, .int ((k : Int) * k * 7919 + 104729)]) rfl ?_⟩
      show seqM _ _ [.scr [], .int k, .gone] = _
      rw [seq_nx (ρ1 := [.scr [], .int k, .gone]) (by simp -implicitDefEqProofs [ifM, skipM, show ¬ (k : Int) < 0 by omega])]
      rw [seq_nx (ρ1 := [.scr [], .int k, .int ((k : Int) * k * 7919 + 104729)]) (by simp -implicitDefEqProofs [asgM, -mul_int, hk2, mul_7919])]
      rw [seq_nx (ρ1 := [.scr [], .int k, .int ((k : Int) * k * 7919 + 104729)]) (by simp -implicitDefEqProofs [ifM, skipM])]
      simp -implicitDefEqProofs [retM, -mul_int, mul_48271]
def cell2v (ns : List Int) (k : Nat) : Int := match cell2F [.scr ns, .int k] with
  | some (.int c, _) => c
  | _ => 0
theorem cell2_eq (ns : List Int) (k : Nat) (hk : k ≤ 1000000) : cell2F [.scr ns, .int k] = some (.int (cell2v ns k), [.scr ns, .int k]) := by
  obtain ⟨c, hc⟩ := cell2_ex ns k hk
  have : cell2v ns k = c := by unfold cell2v; rw [hc]
  rw [this, hc]

/-! ### a stream of numbers -/
def strA : SM := (seqM (exprM (appL (vL 4) (m2 modD (vM 3) (m2 powD (kM (.int 10)) (kM (.int 9))))))
  (asgM (nameT 3) (upF (m2 fdivD (vM 3) (m2 powD (kM (.int 10)) (kM (.int 9)))))))
def strB : SM := (seqM (asgM (nameT 2) (upF (m2 modD (m2 addD (m2 mulD (vM 2) (kM (.int 48271))) (kM (.int 104729))) (kM (.int 2147483629)))))
  (exprM (appL (vL 4) (m2 fdivD (m2 modD (m2 mulD (vM 2) (vM 2)) (kM (.int 998244353))) (kM (.int 11))))))
def strBody : SM := (ifM (bM (m2 gtD (vM 0) (m2 powD (kM (.int 10)) (kM (.int 18))))) strA strB)
def streamF : FM := runM 6 [true, true] (seqM (asgM (nameT 2) (upF (coldM (m2 addD (m2 mulD (m2 addD (m2 modD (vM 0) (kM (.int 2147483647))) (kM (.int 7919))) (kM (.int 48271))) (kM (.int 104729))))))
  (seqM (asgM (nameT 3) (upR (vM 0)))
  (seqM (asgM (nameT 4) (upF (lstM nilM)))
  (seqM (forM (nameT 5) strBody [5] (rng1M (vM 1)))
  (retM (mvM (vL 4)))))))
theorem strA_one (c m num rest x : Int) (xs : List Int) (hl : xs.length < 1000000) : strA [.int c, .int m, .int num, .int rest, .lst true (xs.map .int), .int x] = some (.nx, [.int c, .int m, .int num, .int (rest / 1000000000), .lst true ((xs ++ [rest % 1000000000]).map .int), .int x]) := by
  have hl' : xs.length < LIM := hl
  unfold strA
  rw [seq_nx (ρ1 := [.int c, .int m, .int num, .int rest, .lst true ((xs ++ [rest % 1000000000]).map .int), .int x]) (by simp -implicitDefEqProofs [exprM, pow_109, -pow_int, hl'])]
  simp -implicitDefEqProofs [asgM, pow_109, fdiv_109, -pow_int, -fdiv_int]
theorem strB_one (c m num rest x : Int) (xs : List Int) (hl : xs.length < 1000000) : strB [.int c, .int m, .int num, .int rest, .lst true (xs.map .int), .int x] = some (.nx, [.int c, .int m, .int ((num * 48271 + 104729) % 2147483629), .int rest, .lst true ((xs ++ [((num * 48271 + 104729) % 2147483629) * ((num * 48271 + 104729) % 2147483629) % 998244353 / 11]).map .int), .int x]) := by
  have hl' : xs.length < LIM := hl
  have hm : mulD (.int ((num * 48271 + 104729) % 2147483629)) (.int ((num * 48271 + 104729) % 2147483629)) = some (.int (((num * 48271 + 104729) % 2147483629) * ((num * 48271 + 104729) % 2147483629))) := mul_ok (by omega) (by omega)
  unfold strB
  rw [seq_nx (ρ1 := [.int c, .int m, .int ((num * 48271 + 104729) % 2147483629), .int rest, .lst true (xs.map .int), .int x]) (by simp -implicitDefEqProofs [asgM, mul_48271, -mul_int])]
  simp -implicitDefEqProofs [exprM, hm, fdiv_11, -fdiv_int, -mul_int, hl']
def okN (xs : List Int) : Prop := ∀ x ∈ xs, 0 ≤ x ∧ x < 1000000000
theorem okN_app {xs : List Int} {x : Int} (h : okN xs) (h1 : 0 ≤ x) (h2 : x < 1000000000) : okN (xs ++ [x]) := by
  intro y hy
  rcases List.mem_append.mp hy with q | q
  · exact h y q
  · rw [List.mem_singleton.mp q]; exact ⟨h1, h2⟩
theorem stream_ex (c : Int) (m : Nat) (hm : m ≤ 1000) : ∃ xs : List Int, xs.length = m ∧ okN xs ∧ streamF [.int c, .int m] = some (.lst true (xs.map .int), [.int c, .int m]) := by
  have hr : rng1M (vM 1) [.int c, .int m, .int ((c % 2147483647 + 7919) * 48271 + 104729), .int c, .lst true [], .gone] = some (upD 0 m) := by
    have hr0 : rng1D (.int (m : Int)) = some (upD 0 m) := rng1_nat (by omega)
    simp -implicitDefEqProofs [hr0]
  have main : ∃ xs : List Int, ∃ num rest : Int, xs.length = m ∧ okN xs ∧ forL (nameT 5) strBody [5] (upD 0 m) [.int c, .int m, .int ((c % 2147483647 + 7919) * 48271 + 104729), .int c, .lst true (([] : List Int).map .int), .gone] = some (.nx, [.int c, .int m, .int num, .int rest, .lst true (xs.map .int), .gone]) := by
    by_cases hc : (1000000000000000000 : Int) < c
    · have := for_foldI (f := nameT 5) (body := strBody) (kl := [5]) (fun (j : Nat) => D.int (j : Int)) (fun (s : Int × Int × List Int) => [.int c, .int m, .int s.1, .int s.2.1, .lst true (s.2.2.map .int), .gone]) (fun s (_ : Nat) => (s.1, s.2.1 / 1000000000, s.2.2 ++ [s.2.1 % 1000000000])) (fun r s => r + s.2.2.length = m ∧ okN s.2.2) (List.range m) ((c % 2147483647 + 7919) * 48271 + 104729, c, []) ⟨by simp, fun x hx => by simp at hx⟩ fun r s hs x _ => ⟨⟨by simp; omega, okN_app hs.2 (by omega) (by omega)⟩, _, _, _, rfl, by
        unfold strBody
        rw [if_T (by simp -implicitDefEqProofs [pow_1018, -pow_int, hc])]
        exact strA_one c m s.1 s.2.1 x s.2.2 (by omega), .inl rfl, rfl⟩
      rw [upD0]
      exact ⟨_, _, _, by simpa using this.2.1, this.2.2, this.1⟩
    · have := for_foldI (f := nameT 5) (body := strBody) (kl := [5]) (fun (j : Nat) => D.int (j : Int)) (fun (s : Int × Int × List Int) => [.int c, .int m, .int s.1, .int s.2.1, .lst true (s.2.2.map .int), .gone]) (fun s (_ : Nat) => ((s.1 * 48271 + 104729) % 2147483629, s.2.1, s.2.2 ++ [((s.1 * 48271 + 104729) % 2147483629) * ((s.1 * 48271 + 104729) % 2147483629) % 998244353 / 11])) (fun r s => r + s.2.2.length = m ∧ okN s.2.2) (List.range m) ((c % 2147483647 + 7919) * 48271 + 104729, c, []) ⟨by simp, fun x hx => by simp at hx⟩ fun r s hs x _ => ⟨⟨by simp; omega, by
          generalize hz : ((s.1 * 48271 + 104729) % 2147483629) * ((s.1 * 48271 + 104729) % 2147483629) = z
          exact okN_app hs.2 (by omega) (by omega)⟩, _, _, _, rfl, by
        unfold strBody
        rw [if_F (by simp -implicitDefEqProofs [pow_1018, -pow_int]; omega)]
        exact strB_one c m s.1 s.2.1 x s.2.2 (by omega), .inl rfl, rfl⟩
      rw [upD0]
      exact ⟨_, _, _, by simpa using this.2.1, this.2.2, this.1⟩
  obtain ⟨xs, num, rest, h1, h2, h3⟩ := main
  refine ⟨xs, h1, h2, ?_⟩
  unfold streamF
  refine run_eq (ρ' := [.int c, .int m, .int num, .int rest, .gone, .gone]) rfl ?_
  show seqM _ _ [.int c, .int m, .gone, .gone, .gone, .gone] = _
  rw [seq_nx (ρ1 := [.int c, .int m, .int ((c % 2147483647 + 7919) * 48271 + 104729), .gone, .gone, .gone]) (by simp -implicitDefEqProofs [asgM, mul_48271, -mul_int])]
  rw [seq_nx (ρ1 := [.int c, .int m, .int ((c % 2147483647 + 7919) * 48271 + 104729), .int c, .gone, .gone]) (by simp -implicitDefEqProofs [asgM])]
  rw [seq_nx (ρ1 := [.int c, .int m, .int ((c % 2147483647 + 7919) * 48271 + 104729), .int c, .lst true [], .gone]) (by simp -implicitDefEqProofs [asgM])]
  rw [seq_nx (ρ1 := [.int c, .int m, .int num, .int rest, .lst true (xs.map .int), .gone]) (by rw [for_at hr]; exact h3)]
  simp -implicitDefEqProofs [retM]

/-! ### loops by what holds -/
theorem for_rel {α : Type} {f : TgM} {body : SM} {kl : List Nat} (enc : α → D) (Inv : Nat → List D → Prop) : ∀ (xs : List α) (ρ : List D), Inv xs.length ρ → (∀ r ρ, Inv (r + 1) ρ → ∀ x ∈ xs, ∃ ρ1 fl ρ2, f (enc x) ρ = some ρ1 ∧ body ρ1 = some (fl, ρ2) ∧ (fl = .nx ∨ fl = .ct) ∧ Inv r (goneAt ρ2 kl)) →
    ∃ ρ', forL f body kl (xs.map enc) ρ = some (.nx, ρ') ∧ Inv 0 ρ'
  | [], ρ, hi, _ => ⟨ρ, rfl, hi⟩
  | x :: xs, ρ, hi, h => by
    obtain ⟨ρ1, fl, ρ2, e1, e2, e3, e4⟩ := h xs.length ρ hi x (by simp)
    obtain ⟨ρ', h1, h2⟩ := for_rel (f := f) (body := body) (kl := kl) enc Inv xs _ e4 fun r s hs y hy => h r s hs y (by simp [hy])
    refine ⟨ρ', ?_, h2⟩
    rw [List.map_cons]
    unfold forL
    rw [e1, Option.bind_some, e2, Option.bind_some]
    rcases e3 with rfl | rfl
    · exact h1
    · exact h1
theorem atI_mem {α : Type} {xs : List α} {i : Int} (h0 : 0 ≤ i) (h1 : i < (xs.length : Int)) : ∃ x ∈ xs, atI xs i = some x :=
  have : i.toNat < xs.length := by omega
  ⟨_, List.getElem_mem this, atI_at h0 this⟩
theorem at_lt {xs : List Nat} {N : Nat} (hN : ∀ x ∈ xs, x < N) {i : Int} (h0 : 0 ≤ i) (h1 : i < (xs.length : Int)) : ∃ k, atI xs i = some k ∧ k < N := by
  obtain ⟨x, hx, e⟩ := atI_mem h0 h1
  exact ⟨x, e, hN x hx⟩
theorem emod_in (c n : Int) (hn : 0 < n) : 0 ≤ c % n ∧ c % n < n := ⟨Int.emod_nonneg _ (by omega), Int.emod_lt_of_pos _ hn⟩
theorem strsOf_chars : ∀ cs : List Nat, strsOf (cs.map fun c => D.str [c]) = some (cs.map fun c => [c])
  | [] => rfl
  | c :: cs => by simp [strsOf, strsOf_chars cs]
theorem joinL_chars : ∀ cs : List Nat, TL.joinL [] (cs.map fun c => [c]) = cs
  | [] => rfl
  | [c] => rfl
  | c :: d :: cs => by
    have := joinL_chars (d :: cs)
    simp only [List.map_cons] at this ⊢
    simp [TL.joinL, this]
theorem join_chars {o : Bool} {cs : List Nat} (h : cs.length ≤ LIM) : joinD2 (.str []) (.lst o (cs.map fun c => D.str [c])) = some (.str cs) := by
  unfold joinD2
  simp only [strsOf_chars, Option.bind_some, joinL_chars]
  have : ((cs.map fun c => [c]).map List.length).sum = cs.length := by
    rw [List.map_map]
    have : (List.length ∘ fun (c : Nat) => [c]) = fun _ => 1 := by funext c; rfl
    rw [this, List.map_const', List.sum_replicate_nat]; simp
  rw [this, List.length_nil, Nat.mul_zero, Nat.add_zero, if_pos h]

/-! ### letters -/
/-- a letter -/
structure Lt where
  a : Nat
  b : Nat
  c : Nat
  p : Int
  e : Nat
def ext (p : Int) : Nat → List D
  | 0 => []
  | 1 => [.int p]
  | _ => [.int p, .str [120]]
def enc (t : Lt) : D := .tup (.str [t.a] :: .str [t.b] :: .str [t.c] :: ext t.p t.e)
def okL (t : Lt) : Prop := t.a < 1114112 ∧ t.b < 1114112 ∧ t.c < 1114112
@[simp] theorem ext_frz (p : Int) (e : Nat) : frzL (ext p e) = true := by rcases e with _ | _ | e <;> rfl
@[simp] theorem ext_ice (p : Int) (e : Nat) : iceL (ext p e) = ext p e := iceL_frz _ (ext_frz p e)
@[simp] theorem enc_ng (t : Lt) : notGone (enc t) = true := rfl
@[simp] theorem enc_frz (t : Lt) : frz (enc t) = true := by simp [enc]
@[simp] theorem enc_ice (t : Lt) : ice (enc t) = enc t := ice_frz _ (enc_frz t)
theorem enc_good {n : Nat} {t : Lt} (h : okL t) : good (n + 1) (enc t) = true := by
  refine good_tup ?_
  have : goodL n (ext t.p t.e) = true := by
    generalize t.e = e
    rcases e with _ | _ | e <;> simp [ext, goodL]
  simp [goodL, this, h.1, h.2.1, h.2.2]
theorem encs_frz (ls : List Lt) : frzL (ls.map enc) = true := frzL_map.mpr fun t _ => enc_frz t
theorem encs_good {ls : List Lt} (h : ∀ t ∈ ls, okL t) (o : Bool) : good 64 (.lst o (ls.map enc)) = true :=
  good_lst (n := 63) (goodL_map.mpr fun t ht => enc_good (h t ht))

/-! ### a run of signs -/
def runF : FM := runM 9 [true] (seqM (asgM (nameT 1) (upF (kM (.str [97, 98, 99, 100, 101, 102, 103, 104, 105, 106, 107, 108, 109, 110, 111, 112, 113, 114, 115, 116, 117, 118, 119, 120, 121, 122]))))
  (seqM (asgM (nameT 2) (upF (kM (.str [65, 66, 67, 68, 69, 70, 71, 72, 73, 74, 75, 76, 77, 78, 79, 80, 81, 82, 83, 84, 85, 86, 87, 88, 89, 90]))))
  (seqM (asgM (nameT 3) (upF (kM (.str [33, 34, 35, 36, 38, 39, 40, 41, 42, 43, 44, 45, 46, 47, 48, 49, 50, 51, 52, 53, 54, 55, 56, 57, 58, 59, 60, 61, 62, 63, 64, 91, 92, 93, 94, 95, 96, 123, 124, 125]))))
  (seqM (asgM (nameT 4) (upF (m2 modD (m2 ixD (vM 0) (kM (.int 0))) (kM (.int 8)))))
  (seqM (asgM (nameT 5) (upF (coldM (m2 addD (kM (.int 1)) (m2 modD (m2 ixD (vM 0) (kM (.int 1))) (m2 ixD (lstM (consM (kM (.int 4)) (consM (kM (.int 6)) (consM (kM (.int 9)) (consM (kM (.int 40)) (consM (kM (.int 4)) (consM (kM (.int 3)) (consM (kM (.int 1)) (consM (kM (.int 2)) nilM))))))))) (vM 4)))))))
  (seqM (asgM (nameT 6) (upR (m2 ixD (lstM (consM (vM 1) (consM (vM 1) (consM (coldM (m2 addD (vM 1) (vM 2))) (consM (vM 1) (consM (vM 2) (consM (kM (.str [32])) (consM (kM (.str [32])) (consM (vM 3) nilM))))))))) (vM 4))))
  (seqM (asgM (nameT 7) (upF (coldM (m2 joinD2 (kM (.str [])) (compM [8] (nameT 8) yesB (m2 ixD (vM 6) (m2 modD (m2 addD (m2 ixD (vM 0) (kM (.int 2))) (m2 mulD (kM (.int 7)) (vM 8))) (mA lenD (consM (vM 6) nilM)))) (rng1M (vM 5)))))))
  (retM (upF (m2 addD (vM 7) (m2 mulD (kM (.str [32])) (m2 fdivD (m2 modD (m2 ixD (vM 0) (kM (.int 3))) (kM (.int 5))) (kM (.int 2))))))))))))))
def runSmall : List Nat := [97, 98, 99, 100, 101, 102, 103, 104, 105, 106, 107, 108, 109, 110, 111, 112, 113, 114, 115, 116, 117, 118, 119, 120, 121, 122]
def runGreat : List Nat := [65, 66, 67, 68, 69, 70, 71, 72, 73, 74, 75, 76, 77, 78, 79, 80, 81, 82, 83, 84, 85, 86, 87, 88, 89, 90]
def runOther : List Nat := [33, 34, 35, 36, 38, 39, 40, 41, 42, 43, 44, 45, 46, 47, 48, 49, 50, 51, 52, 53, 54, 55, 56, 57, 58, 59, 60, 61, 62, 63, 64, 91, 92, 93, 94, 95, 96, 123, 124, 125]
def runSigns : List (List Nat) := [runSmall, runSmall, runSmall ++ runGreat, runSmall, runGreat, [32], [32], runOther]
theorem runSigns_ok : ∀ t ∈ runSigns, 0 < t.length ∧ t.length ≤ 60 ∧ ∀ k ∈ t, 32 ≤ k ∧ k < 126 ∧ k ≠ 37 := by decide
theorem atI_map' {α β : Type} {f : α → β} {xs : List α} {i : Int} {x : α} (h : atI xs i = some x) : atI (xs.map f) i = some (f x) := by
  unfold atI at h ⊢
  rw [List.length_map]
  cases e : ixN xs.length i with
  | none => rw [e] at h; cases h
  | some j => rw [e, Option.bind_some] at h; simp only [Option.bind_some, List.getElem?_map, h, Option.map_some]
theorem run_ex (xs : List Int) (hl : xs.length = 7) (hn : okN xs) : ∃ s : List Nat, 0 < s.length ∧ s.length ≤ 42 ∧ (∀ k ∈ s, 32 ≤ k ∧ k < 126 ∧ k ≠ 37) ∧ runF [.lst false (xs.map .int)] = some (.str s, [.lst false (xs.map .int)]) := by
  obtain ⟨x0, x1, x2, x3, x4, x5, x6, rfl⟩ : ∃ x0 x1 x2 x3 x4 x5 x6, xs = [x0, x1, x2, x3, x4, x5, x6] := by
    match xs, hl with
    | [x0, x1, x2, x3, x4, x5, x6], _ => exact ⟨x0, x1, x2, x3, x4, x5, x6, rfl⟩
  have w := emod_in x0 8 (by decide)
  obtain ⟨m, hm, em⟩ := atI_mem (xs := ([4, 6, 9, 40, 4, 3, 1, 2] : List Int)) w.1 w.2
  obtain ⟨t, ht, et⟩ := atI_mem (xs := runSigns) w.1 w.2
  obtain ⟨t1, t2, t3⟩ := runSigns_ok t ht
  have em' : atI [D.int 4, D.int 6, D.int 9, D.int 40, D.int 4, D.int 3, D.int 1, D.int 2] (x0 % 8) = some (.int m) := atI_map' (f := D.int) em
  have et' : atI [D.str runSmall, D.str runSmall, D.str (runSmall ++ runGreat), D.str runSmall, D.str runGreat, D.str [32], D.str [32], D.str runOther] (x0 % 8) = some (.str t) := atI_map' (f := D.str) et
  have hm1 : 0 < m ∧ m ≤ 40 := by
    have : ∀ m ∈ ([4, 6, 9, 40, 4, 3, 1, 2] : List Int), 0 < m ∧ m ≤ 40 := by decide
    exact this m hm
  have hq := emod_in x1 m hm1.1
  obtain ⟨n, hn'⟩ : ∃ n : Nat, (1 + x1 % m : Int) = n := ⟨(1 + x1 % m).toNat, by omega⟩
  have hn1 : 0 < n ∧ n ≤ 40 := by omega
  have hsp : 0 ≤ x3 % 5 / 2 ∧ x3 % 5 / 2 ≤ 2 := by omega
  have ht' : (0 : Int) < (t.length : Int) := by omega
  have hlt : t.length ≤ LIM := by unfold LIM; omega
  -- the signs
  have hc : ∀ k : Nat, ∃ c, atI t ((x2 + 7 * (k : Int)) % (t.length : Int)) = some c ∧ c ∈ t := fun k => by
    have q := emod_in (x2 + 7 * (k : Int)) (t.length : Int) ht'
    obtain ⟨c, h1, h2⟩ := atI_mem (xs := t) q.1 q.2
    exact ⟨c, h2, h1⟩
  obtain ⟨g, hg⟩ := Classical.skolem.mp hc
  have hcomp : compL (nameT 8) yesB (m2 ixD (vM 6) (m2 modD (m2 addD (m2 ixD (vM 0) (kM (.int 2))) (m2 mulD (kM (.int 7)) (vM 8))) (mA lenD (consM (vM 6) nilM)))) [.lst false [.int x0, .int x1, .int x2, .int x3, .int x4, .int x5, .int x6], .str runSmall, .str runGreat, .str runOther, .int (x0 % 8), .int n, .str t, .gone, .gone] (upD 0 n) = some (((List.range n).map g).map fun c => D.str [c]) := by
    rw [upD0, List.map_map]
    refine comp_all (fun (k : Nat) => D.int (k : Int)) (fun k => D.str [g k]) (List.range n) fun k _ => ⟨_, rfl, ?_, rfl⟩
    simp -implicitDefEqProofs [-mul_int, mul_7l, -mod_int, mod_pos ht', hlt, (hg k).1]
  refine ⟨(List.range n).map g ++ List.replicate (x3 % 5 / 2).toNat 32, by simp; omega, by simp; omega, fun k hk => ?_, ?_⟩
  · rcases List.mem_append.mp hk with q | q
    · obtain ⟨j, _, rfl⟩ := List.mem_map.mp q
      exact t3 _ (hg j).2
    · rw [List.eq_of_mem_replicate q]; decide
  unfold runF
  refine run_eq (ρ' := [.lst false [.int x0, .int x1, .int x2, .int x3, .int x4, .int x5, .int x6], .str runSmall, .str runGreat, .str runOther, .int (x0 % 8), .int n, .str t, .str ((List.range n).map g), .gone]) rfl ?_
  show seqM _ _ [.lst false [.int x0, .int x1, .int x2, .int x3, .int x4, .int x5, .int x6], .gone, .gone, .gone, .gone, .gone, .gone, .gone, .gone] = _
  rw [seq_nx (ρ1 := [.lst false [.int x0, .int x1, .int x2, .int x3, .int x4, .int x5, .int x6], .str runSmall, .gone, .gone, .gone, .gone, .gone, .gone, .gone]) rfl]
  rw [seq_nx (ρ1 := [.lst false [.int x0, .int x1, .int x2, .int x3, .int x4, .int x5, .int x6], .str runSmall, .str runGreat, .gone, .gone, .gone, .gone, .gone, .gone]) rfl]
  rw [seq_nx (ρ1 := [.lst false [.int x0, .int x1, .int x2, .int x3, .int x4, .int x5, .int x6], .str runSmall, .str runGreat, .str runOther, .gone, .gone, .gone, .gone, .gone]) rfl]
  have l8 : 8 ≤ LIM := by decide
  have lsg : runSmall.length + runGreat.length ≤ LIM := by decide
  rw [seq_nx (ρ1 := [.lst false [.int x0, .int x1, .int x2, .int x3, .int x4, .int x5, .int x6], .str runSmall, .str runGreat, .str runOther, .int (x0 % 8), .gone, .gone, .gone, .gone]) (by
    simp -implicitDefEqProofs [asgM])]
  rw [seq_nx (ρ1 := [.lst false [.int x0, .int x1, .int x2, .int x3, .int x4, .int x5, .int x6], .str runSmall, .str runGreat, .str runOther, .int (x0 % 8), .int n, .gone, .gone, .gone]) (by
    simp -implicitDefEqProofs [asgM, l8, em', -mod_int, mod_pos hm1.1, hn'])]
  rw [seq_nx (ρ1 := [.lst false [.int x0, .int x1, .int x2, .int x3, .int x4, .int x5, .int x6], .str runSmall, .str runGreat, .str runOther, .int (x0 % 8), .int n, .str t, .gone, .gone]) (by
    simp -implicitDefEqProofs [asgM, l8, et', lsg])]
  have hr0 : rng1D (.int (n : Int)) = some (upD 0 n) := rng1_nat (by omega)
  have hnl : n ≤ LIM := by unfold LIM; omega
  have hj : joinD2 (.str []) (.lst true (((List.range n).map g).map fun c => D.str [c])) = some (.str ((List.range n).map g)) := join_chars (by simpa using hnl)
  rw [seq_nx (ρ1 := [.lst false [.int x0, .int x1, .int x2, .int x3, .int x4, .int x5, .int x6], .str runSmall, .str runGreat, .str runOther, .int (x0 % 8), .int n, .str t, .str ((List.range n).map g), .gone]) (by
    have hcm := comp_at (vs := [8]) (f := nameT 8) (mc := yesB) (ms := rng1M (vM 5)) (ρ := [.lst false [.int x0, .int x1, .int x2, .int x3, .int x4, .int x5, .int x6], .str runSmall, .str runGreat, .str runOther, .int (x0 % 8), .int n, .str t, .gone, .gone]) (by simp -implicitDefEqProofs [hr0]) (by rw [upD_len]; exact hnl) hcomp
    refine asg_at (upF_at (d := .str ((List.range n).map g)) ?_) rfl
    rw [ev_cold, ev_m2, hcm]
    simp only [ev_k, Option.bind_some, hj, Option.map_some, ice_str])]
  have hrep : (List.replicate (x3 % 5 / 2).toNat [32]).flatten = List.replicate (x3 % 5 / 2).toNat 32 := by simp
  have hsl : (x3 % 5 / 2).toNat ≤ LIM := by unfold LIM; omega
  have hsl2 : n + (x3 % 5 / 2).toNat ≤ LIM := by unfold LIM; omega
  have hb : x3 % 5 / 2 ≤ 1000000 ∧ -1000000 ≤ x3 % 5 / 2 := by omega
  simp -implicitDefEqProofs [retM, -fdiv_int, hb, hsl, hsl2, hrep]

/-! ### a line's letters -/
def letIn : SM := (seqM (ifM (bM (m2 ltD (mA lenD (consM (vM 3) nilM)) (vM 2))) (exprM (appL (vL 3) (tupM (consM (vM 7) (consM (m2 ixD (kM (.str [97, 98, 99, 100, 101, 102, 103, 104, 46])) (m2 modD (m2 ixD (vM 6) (kM (.int 4))) (kM (.int 9)))) (consM (m2 ixD (kM (.str [97, 98, 99, 100, 101, 102, 103, 104, 46])) (m2 modD (m2 ixD (vM 6) (kM (.int 5))) (kM (.int 9)))) (consM (vM 4) nilM))))))) skipM)
  (asgM (nameT 4) (upF (coldM (m2 addD (m2 addD (vM 4) (kM (.int 1))) (m2 modD (m2 ixD (vM 6) (kM (.int 6))) (kM (.int 3))))))))
def letOut : SM := (seqM (asgM (nameT 6) (upF (coldM (callM streamF (consM (coldM (callM cell2F (consM (vM 0) (consM (coldM (m2 addD (vM 1) (vM 5))) nilM)))) (consM (kM (.int 7)) nilM))))))
  (forM (nameT 7) letIn [7] (itM (coldM (callM runF (consM (vM 6) nilM))))))
def lettersF : FM := runM 8 [true, true, true] (seqM (asgM (nameT 3) (upF (lstM nilM)))
  (seqM (asgM (nameT 4) (upF (m2 modD (callM mixF (consM (coldM (callM cell2F (consM (vM 0) (consM (vM 1) nilM)))) (consM (kM (.int 0)) nilM))) (kM (.int 1000)))))
  (seqM (forM (nameT 5) letOut [5, 6, 7] (rng1M (mA max2D (consM (kM (.int 1)) (consM (mA min2D (consM (kM (.int 40)) (consM (m2 subD (mA lenD (consM (vM 0) nilM)) (vM 1)) nilM))) nilM)))))
  (seqM (ifM (bM (m2 eqD (m2 modD (callM mixF (consM (coldM (callM cell2F (consM (vM 0) (consM (kM (.int 0)) nilM)))) (consM (kM (.int 9)) nilM))) (kM (.int 9))) (kM (.int 4)))) (asgM (nameT 3) (upF (lstM nilM))) skipM)
  (retM (mvM (vL 3)))))))
/-- letters as these laws hand them in: sign, ink, ground, place -/
def okT (t : Lt) : Prop := 32 ≤ t.a ∧ t.a < 126 ∧ t.a ≠ 37 ∧ t.b ∈ ([97, 98, 99, 100, 101, 102, 103, 104, 46] : List Nat) ∧ t.c ∈ ([97, 98, 99, 100, 101, 102, 103, 104, 46] : List Nat) ∧ t.e = 1
theorem okT_L {t : Lt} (h : okT t) : okL t := by
  have : ∀ k ∈ ([97, 98, 99, 100, 101, 102, 103, 104, 46] : List Nat), k < 1114112 := by decide
  exact ⟨by have := h.2.1; omega, this _ h.2.2.2.1, this _ h.2.2.2.2.1⟩
abbrev letInv (ns : List Int) (at_ most : Nat) (x : D) (ρ : List D) : Prop := ∃ (ls : List Lt) (p : Int), ρ = [.scr ns, .int at_, .int most, .lst true (ls.map enc), .int p, x, .gone, .gone] ∧ (∀ t ∈ ls, okT t) ∧ ls.length ≤ most
theorem letIn_ok (ns : List Int) (at_ most k : Nat) (hmost : most ≤ 100000) (xs : List Int) (h7 : xs.length = 7) (hx : okN xs) (s : List Nat) (hs : ∀ k ∈ s, 32 ≤ k ∧ k < 126 ∧ k ≠ 37) (ls : List Lt) (p : Int) (hls : ∀ t ∈ ls, okT t) (hlen : ls.length ≤ most) :
    ∃ (ls' : List Lt) (p' : Int), forL (nameT 7) letIn [7] (s.map fun c => D.str [c]) [.scr ns, .int at_, .int most, .lst true (ls.map enc), .int p, .int k, .lst false (xs.map .int), .gone] = some (.nx, [.scr ns, .int at_, .int most, .lst true (ls'.map enc), .int p', .int k, .lst false (xs.map .int), .gone]) ∧ (∀ t ∈ ls', okT t) ∧ ls'.length ≤ most := by
  obtain ⟨x0, x1, x2, x3, x4, x5, x6, rfl⟩ : ∃ x0 x1 x2 x3 x4 x5 x6, xs = [x0, x1, x2, x3, x4, x5, x6] := by
    match xs, h7 with
    | [x0, x1, x2, x3, x4, x5, x6], _ => exact ⟨x0, x1, x2, x3, x4, x5, x6, rfl⟩
  have w4 := emod_in x4 9 (by decide)
  have w5 := emod_in x5 9 (by decide)
  obtain ⟨b, hb, eb⟩ := atI_mem (xs := ([97, 98, 99, 100, 101, 102, 103, 104, 46] : List Nat)) w4.1 w4.2
  obtain ⟨c, hc, ec⟩ := atI_mem (xs := ([97, 98, 99, 100, 101, 102, 103, 104, 46] : List Nat)) w5.1 w5.2
  have a5 (x0 x1 x2 x3 x4 x5 : D) (xs : List D) : atI (x0 :: x1 :: x2 :: x3 :: x4 :: x5 :: xs) 5 = some x5 := by rw [atI_at (by omega) (by simp)]; rfl
  have a6 (x0 x1 x2 x3 x4 x5 x6 : D) (xs : List D) : atI (x0 :: x1 :: x2 :: x3 :: x4 :: x5 :: x6 :: xs) 6 = some x6 := by rw [atI_at (by omega) (by simp)]; rfl
  have l9 : 9 ≤ LIM := by decide
  have l4 : 4 ≤ LIM := by decide
  obtain ⟨ρ', h1, ls', p', h2, h3, h4⟩ := for_rel (f := nameT 7) (body := letIn) (kl := [7]) (fun (c : Nat) => D.str [c]) (fun _ ρ => ∃ (ls : List Lt) (p : Int), ρ = [.scr ns, .int at_, .int most, .lst true (ls.map enc), .int p, .int k, .lst false [.int x0, .int x1, .int x2, .int x3, .int x4, .int x5, .int x6], .gone] ∧ (∀ t ∈ ls, okT t) ∧ ls.length ≤ most) s
    [.scr ns, .int at_, .int most, .lst true (ls.map enc), .int p, .int k, .lst false [.int x0, .int x1, .int x2, .int x3, .int x4, .int x5, .int x6], .gone] ⟨ls, p, rfl, hls, hlen⟩ (by
      rintro _ ρ ⟨ls, p, rfl, hls, hlen⟩ a ha
      have hsa := hs a ha
      by_cases hlt : ls.length < most
      · refine ⟨_, .nx, [.scr ns, .int at_, .int most, .lst true ((ls ++ [(⟨a, b, c, p, 1⟩ : Lt)]).map enc), .int (p + 1 + x6 % 3), .int k, .lst false [.int x0, .int x1, .int x2, .int x3, .int x4, .int x5, .int x6], .str [a]], rfl, ?_, .inl rfl, ls ++ [(⟨a, b, c, p, 1⟩ : Lt)], p + 1 + x6 % 3, rfl, ?_, by simp; omega⟩
        · have hl : ls.length < LIM := by unfold LIM; omega
          unfold letIn
          show seqM _ _ [.scr ns, .int at_, .int most, .lst true (ls.map enc), .int p, .int k, .lst false [.int x0, .int x1, .int x2, .int x3, .int x4, .int x5, .int x6], .str [a]] = _
          rw [seq_nx (ρ1 := [.scr ns, .int at_, .int most, .lst true ((ls ++ [(⟨a, b, c, p, 1⟩ : Lt)]).map enc), .int p, .int k, .lst false [.int x0, .int x1, .int x2, .int x3, .int x4, .int x5, .int x6], .str [a]]) (by
            rw [if_T (by simp -implicitDefEqProofs [hlt])]
            simp -implicitDefEqProofs [exprM, l9, l4, eb, ec, a5, hl, enc, ext])]
          simp -implicitDefEqProofs [asgM, a6]
        · intro t ht
          rcases List.mem_append.mp ht with q | q
          · exact hls t q
          · rw [List.mem_singleton.mp q]
            exact ⟨hsa.1, hsa.2.1, hsa.2.2, hb, hc, rfl⟩
      · refine ⟨_, .nx, [.scr ns, .int at_, .int most, .lst true (ls.map enc), .int (p + 1 + x6 % 3), .int k, .lst false [.int x0, .int x1, .int x2, .int x3, .int x4, .int x5, .int x6], .str [a]], rfl, ?_, .inl rfl, ls, p + 1 + x6 % 3, rfl, hls, hlen⟩
        unfold letIn
        show seqM _ _ [.scr ns, .int at_, .int most, .lst true (ls.map enc), .int p, .int k, .lst false [.int x0, .int x1, .int x2, .int x3, .int x4, .int x5, .int x6], .str [a]] = _
        rw [seq_nx (ρ1 := [.scr ns, .int at_, .int most, .lst true (ls.map enc), .int p, .int k, .lst false [.int x0, .int x1, .int x2, .int x3, .int x4, .int x5, .int x6], .str [a]]) (if_no (by simp -implicitDefEqProofs [hlt]))]
        simp -implicitDefEqProofs [asgM, a6])
  subst h2
  exact ⟨ls', p', h1, h3, h4⟩
theorem letters_ex (ns : List Int) (at_ most : Nat) (hat : at_ ≤ 100000) (hmost : most ≤ 100000) : ∃ ls : List Lt, (∀ t ∈ ls, okT t) ∧ ls.length ≤ most ∧ lettersF [.scr ns, .int at_, .int most] = some (.lst true (ls.map enc), [.scr ns, .int at_, .int most]) := by
  have hc := cell2_eq ns at_ (by omega)
  have hc0 : cell2F [.scr ns, .int 0] = some (.int (cell2v ns 0), [.scr ns, .int 0]) := cell2_eq ns 0 (by omega)
  have hm0 : mixF [.int (cell2v ns at_), .int 0] = some (.int (mixv (cell2v ns at_) 0), [.int (cell2v ns at_), .int 0]) := mix_eq _ 0 (by decide)
  have hm9 : mixF [.int (cell2v ns 0), .int 9] = some (.int (mixv (cell2v ns 0) 9), [.int (cell2v ns 0), .int 9]) := mix_eq _ 9 (by decide)
  obtain ⟨n, hn⟩ : ∃ n : Nat, (n : Int) = (if (if (ns.length : Int) - (at_ : Int) < 40 then (ns.length : Int) - (at_ : Int) else 40) > 1 then (if (ns.length : Int) - (at_ : Int) < 40 then (ns.length : Int) - (at_ : Int) else 40) else 1) := ⟨(if (if (ns.length : Int) - (at_ : Int) < 40 then (ns.length : Int) - (at_ : Int) else 40) > 1 then (if (ns.length : Int) - (at_ : Int) < 40 then (ns.length : Int) - (at_ : Int) else 40) else 1).toNat, by split <;> omega⟩
  have hn40 : n ≤ 40 := by
    have : (n : Int) ≤ 40 := by rw [hn]; split <;> split <;> omega
    omega
  obtain ⟨ρ', h1, ls, p, rfl, h3, h4⟩ := for_rel (f := nameT 5) (body := letOut) (kl := [5, 6, 7]) (fun (j : Nat) => D.int (j : Int)) (fun _ ρ => letInv ns at_ most .gone ρ) (List.range n)
    [.scr ns, .int at_, .int most, .lst true [], .int (mixv (cell2v ns at_) 0 % 1000), .gone, .gone, .gone] ⟨[], _, rfl, by simp, Nat.zero_le _⟩ (by
      rintro _ ρ ⟨ls, p, rfl, hls, hlen⟩ j hj
      have hj' := List.mem_range.mp hj
      have hcj : cell2F [.scr ns, .int ((at_ : Int) + (j : Int))] = some (.int (cell2v ns (at_ + j)), [.scr ns, .int ((at_ : Int) + (j : Int))]) := by
        have := cell2_eq ns (at_ + j) (by omega)
        rw [show ((at_ + j : Nat) : Int) = (at_ : Int) + (j : Int) by omega] at this
        exact this
      obtain ⟨xs, x7, xn, hst⟩ := stream_ex (cell2v ns (at_ + j)) 7 (by decide)
      obtain ⟨s, s1, s2, s3, hrun⟩ := run_ex xs x7 xn
      obtain ⟨ls', p', e1, e2, e3⟩ := letIn_ok ns at_ most j hmost xs x7 xn s s3 ls p hls hlen
      have hst' : streamF [.int (cell2v ns (at_ + j)), .int 7] = some (.lst true (xs.map .int), [.int (cell2v ns (at_ + j)), .int 7]) := hst
      have fx : iceL (xs.map D.int) = xs.map D.int := iceL_frz _ (frzL_map.mpr fun _ _ => rfl)
      have fx2 : frzL (xs.map D.int) = true := frzL_map.mpr fun _ _ => rfl
      generalize hX : xs.map D.int = X at *
      refine ⟨_, .nx, [.scr ns, .int at_, .int most, .lst true (ls'.map enc), .int p', .int j, .lst false X, .gone], rfl, ?_, .inl rfl, ls', p', rfl, e2, e3⟩
      unfold letOut
      show seqM _ _ [.scr ns, .int at_, .int most, .lst true (ls.map enc), .int p, .int j, .gone, .gone] = _
      rw [seq_nx (ρ1 := [.scr ns, .int at_, .int most, .lst true (ls.map enc), .int p, .int j, .lst false X, .gone]) (by
        simp -implicitDefEqProofs [asgM, hcj, hst', fx])]
      rw [for_at (ds := s.map fun c => D.str [c]) (by simp -implicitDefEqProofs [hrun, fx, fx2])]
      exact e1)
  have hloop : forL (nameT 5) letOut [5, 6, 7] (upD 0 n) [.scr ns, .int at_, .int most, .lst true [], .int (mixv (cell2v ns at_) 0 % 1000), .gone, .gone, .gone] = some (.nx, [.scr ns, .int at_, .int most, .lst true (ls.map enc), .int p, .gone, .gone, .gone]) := by rw [upD0]; exact h1
  have hr0 : rng1D (.int (n : Int)) = some (upD 0 n) := rng1_nat (by omega)
  have hrng : rng1M (mA max2D (consM (kM (.int 1)) (consM (mA min2D (consM (kM (.int 40)) (consM (m2 subD (mA lenD (consM (vM 0) nilM)) (vM 1)) nilM))) nilM))) [.scr ns, .int at_, .int most, .lst true [], .int (mixv (cell2v ns at_) 0 % 1000), .gone, .gone, .gone] = some (upD 0 n) := by
    rw [ev_rng1]
    have : mA max2D (consM (kM (.int 1)) (consM (mA min2D (consM (kM (.int 40)) (consM (m2 subD (mA lenD (consM (vM 0) nilM)) (vM 1)) nilM))) nilM)) [.scr ns, .int at_, .int most, .lst true [], .int (mixv (cell2v ns at_) 0 % 1000), .gone, .gone, .gone] = some (.int (n : Int)) := by
      rw [hn]
      simp -implicitDefEqProofs only [ev_mA, ev_cons, ev_k, ev_m2, ev_v, List.getElem?_cons_zero, List.getElem?_cons_succ, Option.bind_some, Option.map_some, ng_scr, ng_int, if_true, ev_nil, len_scr, sub_int, min2_int, max2_int]
    rw [this, Option.bind_some, hr0]
  by_cases h9 : mixv (cell2v ns 0) 9 % 9 = 4
  · refine ⟨[], by simp, Nat.zero_le _, ?_⟩
    unfold lettersF
    refine run_eq (ρ' := [.scr ns, .int at_, .int most, .gone, .int p, .gone, .gone, .gone]) rfl ?_
    show seqM _ _ [.scr ns, .int at_, .int most, .gone, .gone, .gone, .gone, .gone] = _
    rw [seq_nx (ρ1 := [.scr ns, .int at_, .int most, .lst true [], .gone, .gone, .gone, .gone]) (by simp -implicitDefEqProofs [asgM])]
    rw [seq_nx (ρ1 := [.scr ns, .int at_, .int most, .lst true [], .int (mixv (cell2v ns at_) 0 % 1000), .gone, .gone, .gone]) (by simp -implicitDefEqProofs [asgM, hc, hm0])]
    rw [seq_nx ((for_at hrng).trans hloop)]
    rw [seq_nx (ρ1 := [.scr ns, .int at_, .int most, .lst true [], .int p, .gone, .gone, .gone]) (by
      rw [if_T (by simp -implicitDefEqProofs [hc0, hm9, h9])]
      simp -implicitDefEqProofs [asgM])]
    simp -implicitDefEqProofs [retM]
  · refine ⟨ls, h3, h4, ?_⟩
    unfold lettersF
    refine run_eq (ρ' := [.scr ns, .int at_, .int most, .gone, .int p, .gone, .gone, .gone]) rfl ?_
    show seqM _ _ [.scr ns, .int at_, .int most, .gone, .gone, .gone, .gone, .gone] = _
    rw [seq_nx (ρ1 := [.scr ns, .int at_, .int most, .lst true [], .gone, .gone, .gone, .gone]) (by simp -implicitDefEqProofs [asgM])]
    rw [seq_nx (ρ1 := [.scr ns, .int at_, .int most, .lst true [], .int (mixv (cell2v ns at_) 0 % 1000), .gone, .gone, .gone]) (by simp -implicitDefEqProofs [asgM, hc, hm0])]
    rw [seq_nx ((for_at hrng).trans hloop)]
    rw [seq_nx (if_no (by simp -implicitDefEqProofs [hc0, hm9, h9]))]
    simp -implicitDefEqProofs [retM]
end LI
/-! LT: widths, cells, bare ends, what fits. -/
namespace LI
open PySem L2

@[simp] theorem eqB_bl {a b : Bool} : eqB (.bl a) (.bl b) = some (a == b) := by simp [eqB, toP, SeqAt.shaped, PyData.canLay0, PyData.depth, PyData.eqv]
@[simp] theorem eqD_bl {a b : Bool} : eqD (.bl a) (.bl b) = some (.bl (a == b)) := by simp [eqD]
@[simp] theorem neD_bl {a b : Bool} : neD (.bl a) (.bl b) = some (.bl (a != b)) := by simp [neD, bne]
theorem encs_ice (ls : List Lt) : iceL (ls.map enc) = ls.map enc := iceL_frz _ (encs_frz ls)
theorem eq_blank {a : Nat} (h : a < 1114112) : eqD (.str [a]) (.str [32]) = some (.bl (decide (a = 32))) := by
  unfold eqD
  rw [eqB_str (by simp [h]) (by simp)]
  have : ([a] == [32]) = decide (a = 32) := by rw [Bool.eq_iff_iff]; simp
  rw [this]; rfl
def great : List Nat := [65, 66, 67, 68, 69, 70, 71, 72, 73, 74, 75, 76, 77, 78, 79, 80, 81, 82, 83, 84, 85, 86, 87, 88, 89, 90]
def wd (k : Nat) : Int := if k ∈ great then 2 else 1
theorem wd_in (k : Nat) : 1 ≤ wd k ∧ wd k ≤ 2 := by unfold wd; split <;> omega
def widthF : FM := runM 1 [true] (seqM (ifM (bM (m2 inD (vM 0) (kM (.str great)))) (retM (upF (kM (.int 2)))) skipM) (retM (upF (kM (.int 1)))))
theorem width_eq (k : Nat) : widthF [.str [k]] = some (.int (wd k), [.str [k]]) := by
  unfold widthF
  refine run_eq (ρ' := [.str [k]]) rfl ?_
  by_cases h : k ∈ great
  · refine seq_rt ?_
    simp -implicitDefEqProofs [ifM, retM, h, wd]
  · rw [seq_nx (ρ1 := [.str [k]]) (by simp -implicitDefEqProofs [ifM, skipM, h])]
    simp -implicitDefEqProofs [retM, h, wd]
def cellsF : FM := runM 2 [true] (retM (upF (mA sumD (consM (compM [1] (nameT 1) yesB (coldM (callM widthF (consM (m2 ixD (vM 1) (kM (.int 0))) nilM))) (itV (vM 0))) nilM))))
def cellsOf (ls : List Lt) : Int := (ls.map fun t => wd t.a).sum
theorem cells_eq (ls : List Lt) (hl : ls.length ≤ 100000) : cellsF [.lst false (ls.map enc)] = some (.int (cellsOf ls), [.lst false (ls.map enc)]) := by
  unfold cellsF
  refine run_eq (ρ' := [.lst false (ls.map enc), .gone]) rfl ?_
  have h1 : ls.length ≤ LIM := by unfold LIM; omega
  have hc := comp_all (f := nameT 1) (me := coldM (callM widthF (consM (m2 ixD (vM 1) (kM (.int 0))) nilM))) (ρ0 := [.lst false (ls.map enc), .gone]) enc (fun t => .int (wd t.a)) ls fun t ht => ⟨[.lst false (ls.map enc), enc t], rfl, by simp -implicitDefEqProofs [enc, width_eq], rfl⟩
  simp -implicitDefEqProofs [retM, h1, hc, cellsOf]
/-! ### bare ends -/
def bare (ls : List Lt) (lo : Nat) : Nat → Nat
  | 0 => 0
  | hi + 1 => if lo < hi + 1 ∧ (ls[hi]?.map (·.a)) = some 32 then bare ls lo hi else hi + 1
theorem bare_le (ls : List Lt) (lo : Nat) : ∀ hi, bare ls lo hi ≤ hi
  | 0 => Nat.le_refl _
  | hi + 1 => by
    unfold bare
    split
    · exact Nat.le_succ_of_le (bare_le ls lo hi)
    · exact Nat.le_refl _
theorem bare_ge (ls : List Lt) (lo : Nat) : ∀ hi, lo ≤ hi → lo ≤ bare ls lo hi
  | 0, h => h
  | hi + 1, h => by
    unfold bare
    split
    · rename_i q; exact bare_ge ls lo hi (by omega)
    · exact h
def bareC : BM := (andB (bM (m2 gtD (vM 2) (vM 1))) (bM (m2 eqD (m2 ixD (m2 ixD (vM 0) (m2 subD (vM 2) (kM (.int 1)))) (kM (.int 0))) (kM (.str [32])))))
def bareB : SM := (asgM (nameT 2) (upF (m2 subD (vM 2) (kM (.int 1)))))
theorem bare_while (ls : List Lt) (hk : ∀ t ∈ ls, okL t) (lo : Nat) (τ : List D) : ∀ (hi n : Nat), hi < n → hi ≤ ls.length → whileL bareC bareB [] n (.lst false (ls.map enc) :: .int lo :: .int hi :: τ) = some (.nx, .lst false (ls.map enc) :: .int lo :: .int (bare ls lo hi) :: τ)
  | hi, 0, h, _ => by omega
  | 0, n + 1, h, hl => by
    unfold whileL
    have : bareC (.lst false (ls.map enc) :: .int lo :: .int ((0 : Nat) : Int) :: τ) = some false := by
      simp -implicitDefEqProofs [bareC, show ¬ (lo : Int) < 0 by omega]
    rw [this]; rfl
  | hi + 1, n + 1, h, hl => by
    unfold whileL
    have hlt : hi < ls.length := by omega
    have ea : atI (ls.map enc) (hi : Int) = some (enc ls[hi]) := by rw [atI_nat (by simpa using hlt)]; simp
    have hko := (hk ls[hi] (List.getElem_mem hlt)).1
    by_cases h1 : lo < hi + 1
    · by_cases h2 : ls[hi].a = 32
      · have : bareC (.lst false (ls.map enc) :: .int lo :: .int ((hi + 1 : Nat) : Int) :: τ) = some true := by
          have h1' : (lo : Int) < (hi : Int) + 1 := by omega
          simp -implicitDefEqProofs only [bareC, ev_andB, ev_bM, ev_m2, ev_v, ev_k, List.getElem?_cons_zero, List.getElem?_cons_succ, Option.bind_some, ng_int, ng_lst, if_true, gt_int, sub_int, ix_lst, Int.natCast_add, Int.cast_ofNat_Int, Int.add_sub_cancel, ea]
          simp -implicitDefEqProofs [h1', enc, eq_blank hko, h2, eq_blank (show 32 < 1114112 by decide)]
        rw [this, Option.bind_some, if_pos rfl]
        have hb : bareB (.lst false (ls.map enc) :: .int lo :: .int ((hi + 1 : Nat) : Int) :: τ) = some (.nx, .lst false (ls.map enc) :: .int lo :: .int (hi : Int) :: τ) := by
          simp -implicitDefEqProofs [bareB, asgM]
        rw [hb, Option.bind_some]
        have e : bare ls lo (hi + 1) = bare ls lo hi := by
          rw [bare, if_pos ⟨h1, by simp [hlt, h2]⟩]
        rw [e]
        exact bare_while ls hk lo τ hi n (by omega) (by omega)
      · have : bareC (.lst false (ls.map enc) :: .int lo :: .int ((hi + 1 : Nat) : Int) :: τ) = some false := by
          have h1' : (lo : Int) < (hi : Int) + 1 := by omega
          simp -implicitDefEqProofs only [bareC, ev_andB, ev_bM, ev_m2, ev_v, ev_k, List.getElem?_cons_zero, List.getElem?_cons_succ, Option.bind_some, ng_int, ng_lst, if_true, gt_int, sub_int, ix_lst, Int.natCast_add, Int.cast_ofNat_Int, Int.add_sub_cancel, ea]
          simp -implicitDefEqProofs [h1', enc, eq_blank hko, h2]
        rw [this, Option.bind_some, if_neg (by decide)]
        have e : bare ls lo (hi + 1) = hi + 1 := by
          rw [bare, if_neg (fun q => h2 (by simpa [hlt] using q.2))]
        rw [e]
    · have : bareC (.lst false (ls.map enc) :: .int lo :: .int ((hi + 1 : Nat) : Int) :: τ) = some false := by
        have h1' : ¬ (lo : Int) < (hi : Int) + 1 := by omega
        simp -implicitDefEqProofs [bareC, h1']
      rw [this, Option.bind_some, if_neg (by decide)]
      have e : bare ls lo (hi + 1) = hi + 1 := by
        rw [bare, if_neg (fun q => h1 q.1)]
      rw [e]
def bareF : FM := runM 3 [true, true, false] (seqM (whileM 5000 bareC bareB []) (retM (upR (vM 2))))
theorem bare_eq (ls : List Lt) (hk : ∀ t ∈ ls, okL t) (lo hi : Nat) (hl : hi ≤ ls.length) (h5 : hi < 5000) : bareF [.lst false (ls.map enc), .int lo, .int hi] = some (.int (bare ls lo hi), [.lst false (ls.map enc), .int lo, .gone]) := by
  unfold bareF
  refine run_eq (ρ' := [.lst false (ls.map enc), .int lo, .int (bare ls lo hi)]) rfl ?_
  show seqM _ _ [.lst false (ls.map enc), .int lo, .int hi] = _
  rw [seq_nx (a := whileM 5000 bareC bareB []) (bare_while ls hk lo [] hi 5000 h5 hl)]
  simp -implicitDefEqProofs [retM]
def partOf (ls : List Lt) (lo hi : Nat) : List Lt := (ls.drop lo).take (bare ls lo hi - lo)
def betweenF : FM := runM 3 [true, true, true] (retM (upF (callM cellsF (consM (coldM (slM (vM 0) (soM (vM 1)) (soM (callM bareF (consM (vM 0) (consM (vM 1) (consM (vM 2) nilM))))))) nilM))))
theorem cut_part (ls : List Lt) (lo hi : Nat) : cutL (ls.map enc) (some (lo : Int)) (some ((bare ls lo hi : Nat) : Int)) = (partOf ls lo hi).map enc := by
  rw [cut_fromto (by omega) (by omega)]
  simp [partOf]
theorem between_eq (ls : List Lt) (hk : ∀ t ∈ ls, okL t) (lo hi : Nat) (hl : hi ≤ ls.length) (h5 : ls.length < 5000) : betweenF [.lst false (ls.map enc), .int lo, .int hi] = some (.int (cellsOf (partOf ls lo hi)), [.lst false (ls.map enc), .int lo, .int hi]) := by
  unfold betweenF
  refine run_eq (ρ' := [.lst false (ls.map enc), .int lo, .int hi]) rfl ?_
  have hb := bare_eq ls hk lo hi hl (by omega)
  have hc := cells_eq (partOf ls lo hi) (by unfold partOf; rw [List.length_take, List.length_drop]; omega)
  have hp := cut_part ls lo hi
  have f1 := encs_frz ls
  have f2 := encs_ice ls
  have f3 := encs_frz (partOf ls lo hi)
  have f4 := encs_ice (partOf ls lo hi)
  generalize ls.map enc = X at *
  generalize (partOf ls lo hi).map enc = Y at *
  simp -implicitDefEqProofs [retM, f1, f2, hb, hp, f3, f4, hc]
def fitsF : FM := runM 4 [true, true, true, true] (retM (upF (m2 leD (callM betweenF (consM (vM 0) (consM (vM 1) (consM (vM 2) nilM)))) (vM 3))))
theorem fits_eq (ls : List Lt) (hk : ∀ t ∈ ls, okL t) (lo hi : Nat) (wide : Int) (hl : hi ≤ ls.length) (h5 : ls.length < 5000) : fitsF [.lst false (ls.map enc), .int lo, .int hi, .int wide] = some (.bl (decide (cellsOf (partOf ls lo hi) ≤ wide)), [.lst false (ls.map enc), .int lo, .int hi, .int wide]) := by
  unfold fitsF
  refine run_eq (ρ' := [.lst false (ls.map enc), .int lo, .int hi, .int wide]) rfl ?_
  have hb := between_eq ls hk lo hi hl h5
  have f1 := encs_frz ls
  have f2 := encs_ice ls
  generalize ls.map enc = X at *
  simp -implicitDefEqProofs [retM, f1, f2, hb]
end LI
namespace LW
open PySem L2 PyProof.Rows LI
/-! ### what each def is worth -/
/-- is_sign: 0 thing -/
def m_is_sign : SM := (retM (upF (andM (isiM "str" (vM 0)) (andM (m2 eqD (mA lenD (consM (vM 0) nilM)) (kM (.int 1))) (chM leD leD (kM (.str [32])) (vM 0) (kM (.str [125])))))))
def F_is_sign : FM := runM 1 [true] m_is_sign
/-- is_name: 0 thing, 1 sign -/
def m_is_name : SM := (seqM (ifM (orB (notB (truM (isiM "str" (vM 0)))) (notB (bM (chM leD leD (kM (.int 1)) (mA lenD (consM (vM 0) nilM)) (kM (.int 8)))))) (retM (upF (kM (.bl false)))) skipM)
  (seqM (forM (nameT 1) (ifM (bM (m2 ninD (vM 1) (kM (.str [97, 98, 99, 100, 101, 102, 103, 104, 105, 106, 107, 108, 109, 110, 111, 112, 113, 114, 115, 116, 117, 118, 119, 120, 121, 122])))) (retM (upF (kM (.bl false)))) skipM) [1] (itM (vM 0)))
  (retM (upF (kM (.bl true))))))
def F_is_name : FM := runM 2 [true] m_is_name
/-- is_colour: 0 thing -/
def m_is_colour : SM := (retM (upF (andM (isiM "str" (vM 0)) (andM (m2 eqD (mA lenD (consM (vM 0) nilM)) (kM (.int 1))) (m2 inD (vM 0) (kM (.str [97, 98, 99, 100, 101, 102, 103, 104, 46])))))))
def F_is_colour : FM := runM 1 [true] m_is_colour
/-- width_of: 0 sign -/
def m_width_of : SM := (seqM (ifM (bM (m2 inD (vM 0) (kM (.str [65, 66, 67, 68, 69, 70, 71, 72, 73, 74, 75, 76, 77, 78, 79, 80, 81, 82, 83, 84, 85, 86, 87, 88, 89, 90])))) (retM (upF (kM (.int 2)))) skipM)
  (retM (upF (kM (.int 1)))))
def F_width_of : FM := runM 1 [true] m_width_of
/-- _law_cell: 0 _law_script, 1 _law_k -/
def m_lw_cell : SM := (seqM (ifM (bM (m2 ltD (vM 1) (mA lenD (consM (vM 0) nilM)))) (retM (upR (m2 ixD (vM 0) (vM 1)))) skipM)
  (retM (upF (kM (.int 0)))))
def F_lw_cell : FM := runM 2 [true, true] m_lw_cell
/-- _law_mix: 0 _law_cell_here, 1 _law_k, 2 _law_rest, 3 _law_turn, 4 _law_number -/
def m_lw_mix : SM := (seqM (ifM (bM (m2 gtD (vM 0) (m2 powD (kM (.int 10)) (kM (.int 18))))) (seqM (asgM (nameT 2) (upR (vM 0)))
  (seqM (forM (nameT 3) (asgM (nameT 2) (upF (m2 fdivD (vM 2) (m2 powD (kM (.int 10)) (kM (.int 9)))))) [3] (rng1M (vM 1)))
  (retM (upF (m2 modD (vM 2) (m2 powD (kM (.int 10)) (kM (.int 9)))))))) skipM)
  (seqM (asgM (nameT 4) (upF (coldM (m2 addD (m2 modD (vM 0) (kM (.int 2147483647))) (kM (.int 7919))))))
  (seqM (forM (nameT 3) (asgM (nameT 4) (upF (m2 modD (m2 addD (m2 mulD (vM 4) (kM (.int 48271))) (kM (.int 104729))) (kM (.int 2147483629))))) [3] (rng1M (m2 addD (vM 1) (kM (.int 2)))))
  (retM (upF (m2 fdivD (m2 modD (m2 mulD (vM 4) (vM 4)) (kM (.int 998244353))) (kM (.int 11))))))))
def F_lw_mix : FM := runM 5 [true, true] m_lw_mix
/-- _law_signs: 0 _law_some -/
def m_lw_signs : SM := (seqM (asgM (nameT 0) (upF (kM (.str [32, 33, 34, 35, 36, 38, 39, 40, 41, 42, 43, 44, 45, 46, 47, 48, 49, 50, 51, 52, 53, 54, 55, 56, 57, 58, 59, 60, 61, 62, 63, 64, 65, 66, 67, 68, 69, 70, 71, 72, 73, 74, 75, 76, 77, 78, 79, 80, 81, 82, 83, 84, 85, 86, 87, 88, 89, 90]))))
  (retM (upF (m2 addD (vM 0) (kM (.str [91, 92, 93, 94, 95, 96, 97, 98, 99, 100, 101, 102, 103, 104, 105, 106, 107, 108, 109, 110, 111, 112, 113, 114, 115, 116, 117, 118, 119, 120, 121, 122, 123, 124, 125]))))))
def F_lw_signs : FM := runM 1 [] m_lw_signs
/-- _law_small: 0 _law_text, 1 _law_sign -/
def m_lw_small : SM := (retM (upF (m2 eqD (compM [1] (nameT 1) (bM (m2 ninD (vM 1) (kM (.str [97, 98, 99, 100, 101, 102, 103, 104, 105, 106, 107, 108, 109, 110, 111, 112, 113, 114, 115, 116, 117, 118, 119, 120, 121, 122])))) (vM 1) (itV (vM 0))) (lstM nilM))))
def F_lw_small : FM := runM 2 [true] m_lw_small
/-- _law_sign_text: 0 _law_cell_here, 1 _law_signs_here, 2 _law_one -/
def m_lw_sign_text : SM := (seqM (asgM (nameT 1) (upF (coldM (m2 addD (callM F_lw_signs nilM) (kM (.str [126, 10, 9]))))))
  (seqM (asgM (nameT 2) (upR (m2 ixD (vM 1) (m2 modD (callM F_lw_mix (consM (vM 0) (consM (kM (.int 0)) nilM))) (kM (.int 96))))))
  (seqM (ifM (bM (m2 eqD (m2 modD (callM F_lw_mix (consM (vM 0) (consM (kM (.int 2)) nilM))) (kM (.int 3))) (kM (.int 0)))) (retM (upR (m2 ixD (lstM (consM (coldM (m2 addD (vM 2) (m2 ixD (vM 1) (m2 modD (callM F_lw_mix (consM (vM 0) (consM (kM (.int 3)) nilM))) (kM (.int 96)))))) (consM (kM (.str [])) (consM (coldM (m2 addD (vM 2) (vM 2))) nilM)))) (m2 modD (callM F_lw_mix (consM (vM 0) (consM (kM (.int 4)) nilM))) (kM (.int 3)))))) skipM)
  (retM (upR (m2 ixD (lstM (consM (vM 2) (consM (kM (.str [126])) (consM (kM (.str [125])) (consM (kM (.str [32])) (consM (vM 2) (consM (vM 2) nilM))))))) (m2 modD (callM F_lw_mix (consM (vM 0) (consM (kM (.int 5)) nilM))) (kM (.int 6)))))))))
def F_lw_sign_text : FM := runM 3 [true] m_lw_sign_text
/-- _law_name_text: 0 _law_cell_here, 1 _law_letters, 2 _law_name, 3 _law_at, 4 _law_odd, 5 _law_way, 6 _law_k -/
def m_lw_name_text : SM := (seqM (asgM (nameT 1) (upF (kM (.str [97, 98, 99, 100, 101, 102, 103, 104, 105, 106, 107, 108, 109, 110, 111, 112, 113, 114, 115, 116, 117, 118, 119, 120, 121, 122]))))
  (seqM (asgM (nameT 2) (upF (coldM (m2 joinD2 (kM (.str [])) (compM [6] (nameT 6) yesB (m2 ixD (vM 1) (m2 modD (callM F_lw_mix (consM (vM 0) (consM (coldM (m2 addD (kM (.int 10)) (vM 6))) nilM))) (kM (.int 26)))) (rng1M (m2 modD (callM F_lw_mix (consM (vM 0) (consM (kM (.int 6)) nilM))) (kM (.int 11)))))))))
  (seqM (asgM (nameT 3) (upF (m2 modD (callM F_lw_mix (consM (vM 0) (consM (kM (.int 7)) nilM))) (m2 addD (mA lenD (consM (vM 2) nilM)) (kM (.int 1))))))
  (seqM (asgM (nameT 4) (upR (m2 ixD (m2 addD (callM F_lw_signs nilM) (kM (.str [126, 10]))) (m2 modD (callM F_lw_mix (consM (vM 0) (consM (kM (.int 8)) nilM))) (kM (.int 95))))))
  (seqM (asgM (nameT 5) (upF (m2 modD (callM F_lw_mix (consM (vM 0) (consM (kM (.int 9)) nilM))) (kM (.int 4)))))
  (seqM (ifM (bM (m2 eqD (vM 5) (kM (.int 0)))) (retM (upF (m2 addD (m2 addD (slM (vM 2) noM (soM (vM 3))) (vM 4)) (slM (vM 2) (soM (vM 3)) noM)))) skipM)
  (seqM (ifM (bM (m2 eqD (vM 5) (kM (.int 1)))) (retM (upF (m2 addD (m2 addD (slM (vM 2) noM (soM (vM 3))) (vM 4)) (slM (vM 2) (soM (m2 addD (vM 3) (kM (.int 1)))) noM)))) skipM)
  (retM (upR (vM 2))))))))))
def F_lw_name_text : FM := runM 7 [true] m_lw_name_text
/-- _law_colour_text: 0 _law_cell_here, 1 _law_one -/
def m_lw_colour_text : SM := (seqM (asgM (nameT 1) (upR (m2 ixD (kM (.str [97, 98, 99, 100, 101, 102, 103, 104, 105, 46, 65, 72, 47, 32])) (m2 modD (callM F_lw_mix (consM (vM 0) (consM (kM (.int 21)) nilM))) (kM (.int 14))))))
  (seqM (ifM (bM (m2 eqD (m2 modD (callM F_lw_mix (consM (vM 0) (consM (kM (.int 22)) nilM))) (kM (.int 4))) (kM (.int 0)))) (retM (upF (m2 addD (vM 1) (m2 ixD (kM (.str [97, 98, 99, 100, 101, 102, 103, 104, 105, 46])) (m2 modD (callM F_lw_mix (consM (vM 0) (consM (kM (.int 23)) nilM))) (kM (.int 10))))))) skipM)
  (retM (upR (vM 1)))))
def F_lw_colour_text : FM := runM 2 [true] m_lw_colour_text
/-- _law_other: 0 _law_cell_here, 1 _law_one -/
def m_lw_other : SM := (seqM (asgM (nameT 1) (upF (coldM (callM F_lw_name_text (consM (vM 0) nilM)))))
  (retM (upR (m2 ixD (lstM (consM (kM .non) (consM (kM (.int 0)) (consM (kM (.int 7)) (consM (kM (.bl true)) (consM (kM (.bl false)) (consM (coldM (lstM nilM)) (consM (coldM (lstM (consM (vM 1) nilM))) (consM (tupM (consM (vM 1) nilM)) (consM (coldM (dispM nilM nilM)) (consM (coldM (dispM (consM (kM (.str [97])) nilM) (consM (vM 1) nilM))) nilM))))))))))) (m2 modD (callM F_lw_mix (consM (vM 0) (consM (kM (.int 24)) nilM))) (kM (.int 10)))))))
def F_lw_other : FM := runM 2 [true] m_lw_other
/-- _law_due: 0 _law_thing, 1 _law_sign, 2 _law_name -/
def m_lw_due : SM := (seqM (ifM (notB (truM (isiM "str" (vM 0)))) (retM (upF (lstM (consM (kM (.bl false)) (consM (kM (.bl false)) (consM (kM (.bl false)) nilM)))))) skipM)
  (seqM (asgM (nameT 1) (upF (andM (m2 eqD (mA lenD (consM (vM 0) nilM)) (kM (.int 1))) (m2 inD (vM 0) (callM F_lw_signs nilM)))))
  (seqM (asgM (nameT 2) (upF (andM (chM leD leD (kM (.int 1)) (mA lenD (consM (vM 0) nilM)) (kM (.int 8))) (callM F_lw_small (consM (vM 0) nilM)))))
  (retM (upF (lstM (consM (vM 1) (consM (vM 2) (consM (andM (m2 eqD (mA lenD (consM (vM 0) nilM)) (kM (.int 1))) (m2 inD (vM 0) (kM (.str [97, 98, 99, 100, 101, 102, 103, 104, 46])))) nilM)))))))))
def F_lw_due : FM := runM 3 [true] m_lw_due
/-- _law_right: 0 _law_thing, 1 _law_found, 2 _law_one -/
def m_lw_right : SM := (seqM (asgM (nameT 1) (upF (coldM (lstM (consM (coldM (callM F_is_sign (consM (vM 0) nilM))) (consM (coldM (callM F_is_name (consM (vM 0) nilM))) (consM (coldM (callM F_is_colour (consM (vM 0) nilM))) nilM)))))))
  (retM (upF (andM (m2 eqD (compM [2] (nameT 2) yesB (coldM (isiM "bool" (vM 2))) (itV (vM 1))) (lstM (consM (kM (.bl true)) (consM (kM (.bl true)) (consM (kM (.bl true)) nilM))))) (m2 eqD (vM 1) (callVM F_lw_due (consM (vM 0) nilM)))))))
def F_lw_right : FM := runM 3 [true] m_lw_right
/-- law: 0 _law_script, 1 _law_k, 2 _law_cell_here, 3 _law_thing, 4 _law_sign, 5 _law_width -/
def m_law : SM := (seqM (forM (nameT 1) (seqM (asgM (nameT 2) (upF (coldM (callM F_lw_cell (consM (vM 0) (consM (vM 1) nilM))))))
  (forM (nameT 3) (ifM (notB (truM (callM F_lw_right (consM (vM 3) nilM)))) (retM (upF (kM (.bl false)))) skipM) [3] (itM (coldM (lstM (consM (coldM (callM F_lw_sign_text (consM (vM 2) nilM))) (consM (coldM (callM F_lw_name_text (consM (vM 2) nilM))) (consM (coldM (callM F_lw_colour_text (consM (vM 2) nilM))) (consM (coldM (callM F_lw_other (consM (vM 2) nilM))) nilM))))))))) [1, 2, 3] (rng1M (mA max2D (consM (kM (.int 1)) (consM (mA min2D (consM (mA lenD (consM (vM 0) nilM)) (consM (kM (.int 10)) nilM))) nilM)))))
  (seqM (forM (nameT 4) (seqM (asgM (nameT 5) (upF (coldM (callM F_width_of (consM (vM 4) nilM)))))
  (seqM (ifM (orB (notB (truM (isiM "int" (vM 5)))) (orB (truM (isiM "bool" (vM 5))) (bM (m2 nisD (callM F_is_sign (consM (vM 4) nilM)) (kM (.bl true)))))) (retM (upF (kM (.bl false)))) skipM)
  (ifM (bM (m2 neD (vM 5) (m2 addD (kM (.int 1)) (mA intD (consM (m2 inD (vM 4) (kM (.str [65, 66, 67, 68, 69, 70, 71, 72, 73, 74, 75, 76, 77, 78, 79, 80, 81, 82, 83, 84, 85, 86, 87, 88, 89, 90]))) nilM))))) (retM (upF (kM (.bl false)))) skipM))) [4, 5] (itM (coldM (callM F_lw_signs nilM))))
  (retM (upF (kM (.bl true))))))
def F_law : FM := runM 6 [true] m_law
end LW
namespace LW
open PySem L2 PyProof.Rows LI
theorem e_cell : F_lw_cell = cellF := rfl
theorem e_mix : F_lw_mix = mixF := rfl
theorem e_width : F_width_of = widthF := rfl
def signs : List Nat := [32, 33, 34, 35, 36, 38, 39, 40, 41, 42, 43, 44, 45, 46, 47, 48, 49, 50, 51, 52, 53, 54, 55, 56, 57, 58, 59, 60, 61, 62, 63, 64, 65, 66, 67, 68, 69, 70, 71, 72, 73, 74, 75, 76, 77, 78, 79, 80, 81, 82, 83, 84, 85, 86, 87, 88, 89, 90, 91, 92, 93, 94, 95, 96, 97, 98, 99, 100, 101, 102, 103, 104, 105, 106, 107, 108, 109, 110, 111, 112, 113, 114, 115, 116, 117, 118, 119, 120, 121, 122, 123, 124, 125]
def small : List Nat := [97, 98, 99, 100, 101, 102, 103, 104, 105, 106, 107, 108, 109, 110, 111, 112, 113, 114, 115, 116, 117, 118, 119, 120, 121, 122]
def colours : List Nat := [97, 98, 99, 100, 101, 102, 103, 104, 46]
theorem signs_eq : F_lw_signs [] = some (.str signs, []) := by rfl
theorem mixf (c : Int) (k : Nat) (hk : k ≤ 1000000) : F_lw_mix [.int c, .int k] = some (.int (mixv c k), [.int c, .int k]) := mix_eq c k hk
def okc (k : Nat) : Prop := k < 1114112 ∧ k ≠ 37
def sgn (s : List Nat) : Bool := match s with
  | [k] => decide (k ∈ signs)
  | _ => false
def col (s : List Nat) : Bool := match s with
  | [k] => decide (k ∈ colours)
  | _ => false
def nm (s : List Nat) : Bool := decide (1 ≤ s.length) && (decide (s.length ≤ 8) && s.all fun k => decide (k ∈ small))
theorem sign_in {k : Nat} (h : k ≠ 37) : (decide (32 ≤ k) && decide (k ≤ 125)) = decide (k ∈ signs) := by
  have h1 : ∀ k : Fin 126, k.val ≠ 37 → (decide (32 ≤ k.val) && decide (k.val ≤ 125)) = decide (k.val ∈ signs) := by decide
  have h2 : ∀ x ∈ signs, x ≤ 125 := by decide
  by_cases hk : k < 126
  · exact h1 ⟨k, hk⟩ h
  · have a : ¬ k ≤ 125 := by omega
    have b : ¬ k ∈ signs := fun z => a (h2 k z)
    simp [a, b]
theorem lt1 (a b : Nat) : decide ([a] < [b]) = decide (a < b) := by
  rw [Bool.eq_iff_iff]; simp [List.cons_lt_cons_iff]
theorem len1 {s : List Nat} (h : s.length = 1) : ∃ k, s = [k] := by
  match s, h with
  | [k], _ => exact ⟨k, rfl⟩
theorem sgn_no {s : List Nat} (h : s.length ≠ 1) : sgn s = false := by
  unfold sgn
  split
  · simp at h
  · rfl
theorem col_no {s : List Nat} (h : s.length ≠ 1) : col s = false := by
  unfold col
  split
  · simp at h
  · rfl
theorem is_sign_eq (s : List Nat) (hl : s.length ≤ 1000) (h : ∀ k ∈ s, okc k) : F_is_sign [.str s] = some (.bl (sgn s), [.str s]) := by
  have hL : s.length ≤ LIM := by unfold LIM; omega
  unfold F_is_sign m_is_sign
  refine run_eq (ρ' := [.str s]) rfl ?_
  by_cases h1 : s.length = 1
  · obtain ⟨k, rfl⟩ := len1 h1
    have hk := (h k (by simp)).2
    have e1 : leD (.str [32]) (.str [k]) = some (.bl (decide (32 ≤ k))) := by
      rw [le_str, lt1]; congr 2; rw [Bool.eq_iff_iff]; simp
    have e2 : leD (.str [k]) (.str [125]) = some (.bl (decide (k ≤ 125))) := by
      rw [le_str, lt1]; congr 2; rw [Bool.eq_iff_iff]; simp
    have e3 : sgn [k] = (decide (32 ≤ k) && decide (k ≤ 125)) := (sign_in hk).symm
    rw [e3]
    by_cases q : 32 ≤ k
    · simp -implicitDefEqProofs [retM, -le_str, e1, e2, q]
    · simp -implicitDefEqProofs [retM, -le_str, e1, e2, q]
  · rw [sgn_no h1]
    have h1' : ¬ (s.length : Int) = 1 := by omega
    have h2 : ((s.length : Int) == 1) = false := by simpa using h1'
    simp -implicitDefEqProofs [retM, hL, h2]
theorem is_colour_eq (s : List Nat) (hl : s.length ≤ 1000) : F_is_colour [.str s] = some (.bl (col s), [.str s]) := by
  have hL : s.length ≤ LIM := by unfold LIM; omega
  show runM 1 [true] (retM (upF (andM (isiM "str" (vM 0)) (andM (m2 eqD (mA lenD (consM (vM 0) nilM)) (kM (.int 1))) (m2 inD (vM 0) (kM (.str colours))))))) _ = _
  refine run_eq (ρ' := [.str s]) rfl ?_
  by_cases h1 : s.length = 1
  · obtain ⟨k, rfl⟩ := len1 h1
    simp -implicitDefEqProofs [retM, col]
  · rw [col_no h1]
    have h1' : ¬ (s.length : Int) = 1 := by omega
    have h2 : ((s.length : Int) == 1) = false := by simpa using h1'
    simp -implicitDefEqProofs [retM, hL, h2]
def nameB : SM := (ifM (bM (m2 ninD (vM 1) (kM (.str small)))) (retM (upF (kM (.bl false)))) skipM)
theorem name_for (d : D) : ∀ s : List Nat, ∃ ρ', forL (nameT 1) nameB [1] (s.map fun k => D.str [k]) [d, .gone] = some (if (s.all fun k => decide (k ∈ small)) = true then (.nx, [d, .gone]) else (.rt (.bl false), ρ')) ∧ maskL [true] ρ' = [d]
  | [] => ⟨[d, .gone], rfl, rfl⟩
  | k :: s => by
    by_cases h : k ∈ small
    · obtain ⟨ρ', h1, h2⟩ := name_for d s
      refine ⟨ρ', ?_, h2⟩
      rw [List.map_cons]
      unfold forL
      have hb : nameB [d, .str [k]] = some (.nx, [d, .str [k]]) := if_no (by simp -implicitDefEqProofs [h])
      rw [show nameT 1 (D.str [k]) [d, .gone] = some [d, .str [k]] from rfl, Option.bind_some, hb, Option.bind_some]
      show forL _ _ _ _ [d, .gone] = _
      rw [h1]
      simp [h]
    · refine ⟨[d, .str [k]], ?_, rfl⟩
      rw [List.map_cons]
      unfold forL
      have hb : nameB [d, .str [k]] = some (.rt (.bl false), [d, .str [k]]) := by
        unfold nameB
        rw [if_T (by simp -implicitDefEqProofs [h])]
        rfl
      rw [show nameT 1 (D.str [k]) [d, .gone] = some [d, .str [k]] from rfl, Option.bind_some, hb, Option.bind_some]
      simp [h]
theorem is_name_eq (s : List Nat) (hl : s.length ≤ 1000) : F_is_name [.str s] = some (.bl (nm s), [.str s]) := by
  have hL : s.length ≤ LIM := by unfold LIM; omega
  show runM 2 [true] (seqM (ifM (orB (notB (truM (isiM "str" (vM 0)))) (notB (bM (chM leD leD (kM (.int 1)) (mA lenD (consM (vM 0) nilM)) (kM (.int 8)))))) (retM (upF (kM (.bl false)))) skipM)
    (seqM (forM (nameT 1) nameB [1] (itM (vM 0))) (retM (upF (kM (.bl true)))))) _ = _
  by_cases h1 : 1 ≤ s.length
  · have h1' : (1 : Int) ≤ (s.length : Int) := by omega
    by_cases h8 : s.length ≤ 8
    · have h8' : (s.length : Int) ≤ 8 := by omega
      obtain ⟨ρ', e, em⟩ := name_for (.str s) s
      have hit : itM (vM 0) [.str s, .gone] = some (s.map fun k => D.str [k]) := by simp -implicitDefEqProofs []
      have hc : orB (notB (truM (isiM "str" (vM 0)))) (notB (bM (chM leD leD (kM (.int 1)) (mA lenD (consM (vM 0) nilM)) (kM (.int 8))))) [.str s, .gone] = some false := by
        simp -implicitDefEqProofs [hL, h1', h8']
      cases ha : s.all fun k => decide (k ∈ small) with
      | true =>
        rw [ha, if_pos rfl] at e
        have : nm s = true := by simp [nm, h1, h8]; simpa using ha
        rw [this]
        refine run_eq (ρ' := [.str s, .gone]) rfl ?_
        show seqM _ _ [.str s, .gone] = _
        rw [seq_nx (if_no hc), seq_nx ((for_at hit).trans e)]
        rfl
      | false =>
        rw [ha, if_neg (by decide)] at e
        have : nm s = false := by unfold nm; rw [ha]; simp
        rw [this]
        have := run_eq (n := 2) (kp := [true]) (m := (seqM (ifM (orB (notB (truM (isiM "str" (vM 0)))) (notB (bM (chM leD leD (kM (.int 1)) (mA lenD (consM (vM 0) nilM)) (kM (.int 8)))))) (retM (upF (kM (.bl false)))) skipM) (seqM (forM (nameT 1) nameB [1] (itM (vM 0))) (retM (upF (kM (.bl true))))))) (ds := [.str s]) (ρ' := ρ') (d := .bl false) rfl (by
          show seqM _ _ [.str s, .gone] = _
          rw [seq_nx (if_no hc)]
          exact seq_rt ((for_at hit).trans e))
        rw [this, em]
    · have h8' : ¬ (s.length : Int) ≤ 8 := by omega
      have : nm s = false := by simp [nm, h8]
      rw [this]
      refine run_eq (ρ' := [.str s, .gone]) rfl (seq_rt ?_)
      show ifM _ _ _ [.str s, .gone] = _
      rw [if_T (by simp -implicitDefEqProofs [hL, h1', h8'])]
      rfl
  · have h1' : ¬ (1 : Int) ≤ (s.length : Int) := by omega
    have : nm s = false := by simp [nm, h1]
    rw [this]
    refine run_eq (ρ' := [.str s, .gone]) rfl (seq_rt ?_)
    show ifM _ _ _ [.str s, .gone] = _
    rw [if_T (by simp -implicitDefEqProofs [hL, h1'])]
    rfl
/-! ### what is due -/
theorem eq_empty {o p : Bool} {ds : List D} (h : good 64 (.lst o ds) = true) : eqB (.lst o ds) (.lst p []) = some ds.isEmpty := by
  obtain ⟨q, e1, e2, e3⟩ := good_some h
  have e4 : toP (.lst p []) = some (.list []) := rfl
  unfold toP at e1
  cases z : toPL ds with
  | none => rw [z] at e1; cases e1
  | some ps =>
    rw [z] at e1; cases e1
    have hs : SeqAt.shaped (.list ps) = true := by simp [SeqAt.shaped, e2, e3]
    have hs2 : SeqAt.shaped (.list []) = true := by decide
    have : toP (.lst o ds) = some (.list ps) := by unfold toP; rw [z]; rfl
    simp only [eqB, this, e4, Option.bind_some, hs, hs2, and_self, if_true]
    congr 1
    cases ds with
    | nil => cases z; rfl
    | cons d ds =>
      unfold toPL at z
      cases zd : toP d with
      | none => rw [zd] at z; cases z
      | some pd =>
        cases zs : toPL ds with
        | none => rw [zd, zs] at z; cases z
        | some pss => rw [zd, zs] at z; cases z; rfl
theorem small_eq (s : List Nat) (hl : s.length ≤ 1000) (h : ∀ k ∈ s, okc k) : F_lw_small [.str s] = some (.bl (s.all fun k => decide (k ∈ small)), [.str s]) := by
  show runM 2 [true] (retM (upF (m2 eqD (compM [1] (nameT 1) (bM (m2 ninD (vM 1) (kM (.str small)))) (vM 1) (itV (vM 0))) (lstM nilM)))) _ = _
  refine run_eq (ρ' := [.str s, .gone]) rfl ?_
  show retM _ [.str s, .gone] = _
  have hc := comp_eq (f := nameT 1) (mc := bM (m2 ninD (vM 1) (kM (.str small)))) (me := vM 1) (ρ0 := [.str s, .gone]) (fun k => D.str [k]) (fun k => !decide (k ∈ small)) (fun k => D.str [k]) s fun k _ => ⟨[.str s, .str [k]], rfl, by simp -implicitDefEqProofs [], fun _ => ⟨by simp -implicitDefEqProofs [], rfl⟩⟩
  have hm := comp_at (vs := [1]) (f := nameT 1) (mc := bM (m2 ninD (vM 1) (kM (.str small)))) (me := vM 1) (ms := itV (vM 0)) (ρ := [.str s, .gone]) (ds := s.map fun k => D.str [k]) (by simp -implicitDefEqProofs []) (by rw [List.length_map]; unfold LIM; omega) hc
  have hg : good 64 (.lst true ((s.filter fun k => !decide (k ∈ small)).map fun k => D.str [k])) = true := good_lst (n := 63) (goodL_map.mpr fun k hk => by
    have := (h k (List.mem_filter.mp hk).1).1
    simp [this])
  have he : eqD (.lst true ((s.filter fun k => !decide (k ∈ small)).map fun k => D.str [k])) (.lst true []) = some (.bl (s.all fun k => decide (k ∈ small))) := by
    unfold eqD
    rw [eq_empty hg, Option.map_some, List.isEmpty_map]
    congr 2
    rw [Bool.eq_iff_iff, List.isEmpty_iff, List.filter_eq_nil_iff, List.all_eq_true]
    simp
  refine ret_at (upF_at ?_)
  rw [ev_m2, hm, Option.bind_some, show lstM nilM [.str s, .gone] = some (.lst true []) by simp -implicitDefEqProofs [], Option.bind_some, he]
theorem due_eq (s : List Nat) (hl : s.length ≤ 1000) (h : ∀ k ∈ s, okc k) : F_lw_due [.str s] = some (.lst true [.bl (sgn s), .bl (nm s), .bl (col s)], [.str s]) := by
  have hL : s.length ≤ LIM := by unfold LIM; omega
  have hsm := small_eq s hl h
  have h3 : 3 ≤ LIM := by decide
  show runM 3 [true] (seqM (ifM (notB (truM (isiM "str" (vM 0)))) (retM (upF (lstM (consM (kM (.bl false)) (consM (kM (.bl false)) (consM (kM (.bl false)) nilM)))))) skipM)
  (seqM (asgM (nameT 1) (upF (andM (m2 eqD (mA lenD (consM (vM 0) nilM)) (kM (.int 1))) (m2 inD (vM 0) (callM F_lw_signs nilM)))))
  (seqM (asgM (nameT 2) (upF (andM (chM leD leD (kM (.int 1)) (mA lenD (consM (vM 0) nilM)) (kM (.int 8))) (callM F_lw_small (consM (vM 0) nilM)))))
  (retM (upF (lstM (consM (vM 1) (consM (vM 2) (consM (andM (m2 eqD (mA lenD (consM (vM 0) nilM)) (kM (.int 1))) (m2 inD (vM 0) (kM (.str colours)))) nilM))))))))) _ = _
  refine run_eq (ρ' := [.str s, .bl (sgn s), .bl (nm s)]) rfl ?_
  show seqM _ _ [.str s, .gone, .gone] = _
  rw [seq_nx (if_no (by simp -implicitDefEqProofs []))]
  rw [seq_nx (ρ1 := [.str s, .bl (sgn s), .gone]) (by
    by_cases h1 : s.length = 1
    · obtain ⟨k, rfl⟩ := len1 h1
      simp -implicitDefEqProofs [asgM, signs_eq, sgn]
    · rw [sgn_no h1]
      have h1' : ¬ (s.length : Int) = 1 := by omega
      have h2 : ((s.length : Int) == 1) = false := by simpa using h1'
      simp -implicitDefEqProofs [asgM, hL, h2])]
  rw [seq_nx (ρ1 := [.str s, .bl (sgn s), .bl (nm s)]) (by
    by_cases h1 : 1 ≤ s.length
    · have h1' : (1 : Int) ≤ (s.length : Int) := by omega
      by_cases h8 : s.length ≤ 8
      · have h8' : (s.length : Int) ≤ 8 := by omega
        have : nm s = s.all fun k => decide (k ∈ small) := by simp [nm, h1, h8]
        rw [this]
        generalize (s.all fun k => decide (k ∈ small)) = b at *
        simp -implicitDefEqProofs [asgM, hL, h1', h8', hsm]
      · have h8' : ¬ (s.length : Int) ≤ 8 := by omega
        have : nm s = false := by simp [nm, h8]
        rw [this]
        simp -implicitDefEqProofs [asgM, hL, h1', h8']
    · have h1' : ¬ (1 : Int) ≤ (s.length : Int) := by omega
      have : nm s = false := by simp [nm, h1]
      rw [this]
      simp -implicitDefEqProofs [asgM, hL, h1'])]
  by_cases h1 : s.length = 1
  · obtain ⟨k, rfl⟩ := len1 h1
    simp -implicitDefEqProofs [retM, h3, col]
  · rw [col_no h1]
    have h1' : ¬ (s.length : Int) = 1 := by omega
    have h2 : ((s.length : Int) == 1) = false := by simpa using h1'
    simp -implicitDefEqProofs [retM, hL, h2, h3]
theorem right_of (d : D) (a b c : Bool) (hf : frz d = true) (hng : notGone d = true) (h1 : F_is_sign [d] = some (.bl a, [d])) (h2 : F_is_name [d] = some (.bl b, [d])) (h3 : F_is_colour [d] = some (.bl c, [d])) (h4 : F_lw_due [d] = some (.lst true [.bl a, .bl b, .bl c], [d])) : F_lw_right [d] = some (.bl true, [d]) := by
  have l3 : 3 ≤ LIM := by decide
  have hi := ice_frz d hf
  unfold F_lw_right m_lw_right
  refine run_eq (ρ' := [d, .lst false [.bl a, .bl b, .bl c], .gone]) rfl ?_
  show seqM _ _ [d, .gone, .gone] = _
  rw [seq_nx (ρ1 := [d, .lst false [.bl a, .bl b, .bl c], .gone]) (by
    simp -implicitDefEqProofs [asgM, hng, hi, h1, h2, h3, l3])]
  have hc := comp_all (f := nameT 2) (me := coldM (isiM "bool" (vM 2))) (ρ0 := [d, .lst false [.bl a, .bl b, .bl c], .gone]) (fun (x : Bool) => D.bl x) (fun _ => .bl true) [a, b, c] fun x _ => ⟨_, rfl, by simp -implicitDefEqProofs [], rfl⟩
  have hc' : compL (nameT 2) yesB (coldM (isiM "bool" (vM 2))) [d, .lst false [.bl a, .bl b, .bl c], .gone] [.bl a, .bl b, .bl c] = some [.bl true, .bl true, .bl true] := hc
  have e1 (o p : Bool) : eqD (.lst o [.bl true, .bl true, .bl true]) (.lst p [.bl true, .bl true, .bl true]) = some (.bl true) := eqD_same rfl (good_lst (n := 63) (by simp [goodL]))
  have e2 (o p : Bool) : eqD (.lst o [.bl a, .bl b, .bl c]) (.lst p [.bl a, .bl b, .bl c]) = some (.bl true) := eqD_same rfl (good_lst (n := 63) (by simp [goodL]))
  simp -implicitDefEqProofs [retM, hng, l3, hc', e1, hi, h4, e2]
theorem right_str (s : List Nat) (hl : s.length ≤ 1000) (h : ∀ k ∈ s, okc k) : F_lw_right [.str s] = some (.bl true, [.str s]) :=
  right_of _ _ _ _ rfl rfl (is_sign_eq s hl h) (is_name_eq s hl) (is_colour_eq s hl) (due_eq s hl h)
theorem right_other (d : D) (t : String) (hf : frz d = true) (hng : notGone d = true) (ht : tyD d = some t) (hk : kitB t "str" = some false) : F_lw_right [d] = some (.bl true, [d]) := by
  have l3 : 3 ≤ LIM := by decide
  refine right_of d false false false hf hng ?_ ?_ ?_ ?_
  · unfold F_is_sign m_is_sign
    refine run_eq (ρ' := [d]) rfl ?_
    show retM _ [d] = _
    simp -implicitDefEqProofs [retM, hng, ht, hk]
  · unfold F_is_name m_is_name
    refine run_eq (ρ' := [d, .gone]) rfl (seq_rt ?_)
    show ifM _ _ _ [d, .gone] = _
    rw [if_T (by simp -implicitDefEqProofs [hng, ht, hk])]
    rfl
  · unfold F_is_colour m_is_colour
    refine run_eq (ρ' := [d]) rfl ?_
    show retM _ [d] = _
    simp -implicitDefEqProofs [retM, hng, ht, hk]
  · unfold F_lw_due m_lw_due
    refine run_eq (ρ' := [d, .gone, .gone]) rfl (seq_rt ?_)
    show ifM _ _ _ [d, .gone, .gone] = _
    rw [if_T (by simp -implicitDefEqProofs [hng, ht, hk])]
    simp -implicitDefEqProofs [retM, l3]
/-! ### the texts that are tried -/
def okS (s : List Nat) : Prop := s.length ≤ 20 ∧ ∀ k ∈ s, okc k
theorem okS_app {a b : List Nat} {n m : Nat} (ha : ∀ k ∈ a, okc k) (hb : ∀ k ∈ b, okc k) : ∀ k ∈ a ++ b, okc k := fun k hk => (List.mem_append.mp hk).elim (ha k) (hb k)
theorem at_okc {xs : List Nat} (hN : ∀ x ∈ xs, okc x) {i : Int} (h0 : 0 ≤ i) (h1 : i < (xs.length : Int)) : ∃ k, atI xs i = some k ∧ okc k := by
  obtain ⟨x, hx, e⟩ := atI_mem h0 h1
  exact ⟨x, e, hN x hx⟩
instance : DecidablePred okc := fun k => inferInstanceAs (Decidable (_ ∧ _))
theorem sign_text_ex (c : Int) : ∃ s, okS s ∧ F_lw_sign_text [.int c] = some (.str s, [.int c]) := by
  have all : ∀ x ∈ signs ++ [126, 10, 9], okc x := by decide
  have w0 := emod_in (mixv c 0) 96 (by decide)
  have w3 := emod_in (mixv c 3) 96 (by decide)
  obtain ⟨k0, e0, o0⟩ := at_okc all w0.1 (by have : ((signs ++ [126, 10, 9]).length : Int) = 96 := by decide
                                             omega)
  obtain ⟨k3, e3, o3⟩ := at_okc all w3.1 (by have : ((signs ++ [126, 10, 9]).length : Int) = 96 := by decide
                                             omega)
  have m0 : F_lw_mix [.int c, .int 0] = some (.int (mixv c 0), [.int c, .int 0]) := mixf c 0 (by decide)
  have m2' : F_lw_mix [.int c, .int 2] = some (.int (mixv c 2), [.int c, .int 2]) := mixf c 2 (by decide)
  have m3 : F_lw_mix [.int c, .int 3] = some (.int (mixv c 3), [.int c, .int 3]) := mixf c 3 (by decide)
  have m4 : F_lw_mix [.int c, .int 4] = some (.int (mixv c 4), [.int c, .int 4]) := mixf c 4 (by decide)
  have m5 : F_lw_mix [.int c, .int 5] = some (.int (mixv c 5), [.int c, .int 5]) := mixf c 5 (by decide)
  have hsg : signs.length + 3 ≤ LIM := by decide
  have hsg2 : (signs ++ [126, 10, 9]).length ≤ LIM := by decide
  have l2 : 2 ≤ LIM := by decide
  have l3 : 3 ≤ LIM := by decide
  have l6 : 6 ≤ LIM := by decide
  have s1 : asgM (nameT 1) (upF (coldM (m2 addD (callM F_lw_signs nilM) (kM (.str [126, 10, 9]))))) [.int c, .gone, .gone] = some (.nx, [.int c, .str (signs ++ [126, 10, 9]), .gone]) := by
    simp -implicitDefEqProofs [asgM, signs_eq, hsg]
  generalize signs ++ [126, 10, 9] = G at *
  by_cases h : mixv c 2 % 3 = 0
  · have w4 := emod_in (mixv c 4) 3 (by decide)
    obtain ⟨s, hs, es⟩ := atI_mem (xs := [[k0, k3], [], [k0, k0]]) w4.1 w4.2
    have es' : atI [D.str [k0, k3], D.str [], D.str [k0, k0]] (mixv c 4 % 3) = some (.str s) := atI_map' (f := D.str) es
    refine ⟨s, ?_, ?_⟩
    · simp only [List.mem_cons, List.not_mem_nil, or_false] at hs
      rcases hs with rfl | rfl | rfl
      · exact ⟨by simp, by simp [o0, o3]⟩
      · exact ⟨by simp, by simp⟩
      · exact ⟨by simp, by simp [o0]⟩
    · unfold F_lw_sign_text m_lw_sign_text
      refine run_eq (ρ' := [.int c, .str G, .str [k0]]) rfl ?_
      show seqM _ _ [.int c, .gone, .gone] = _
      rw [seq_nx s1]
      rw [seq_nx (ρ1 := [.int c, .str G, .str [k0]]) (by simp -implicitDefEqProofs [asgM, m0, hsg2, e0])]
      refine seq_rt ?_
      rw [if_T (by simp -implicitDefEqProofs [m2', h])]
      simp -implicitDefEqProofs [retM, m3, hsg2, e3, m4, l2, l3, es']
  · have w5 := emod_in (mixv c 5) 6 (by decide)
    obtain ⟨s, hs, es⟩ := atI_mem (xs := [[k0], [126], [125], [32], [k0], [k0]]) w5.1 w5.2
    have es' : atI [D.str [k0], D.str [126], D.str [125], D.str [32], D.str [k0], D.str [k0]] (mixv c 5 % 6) = some (.str s) := atI_map' (f := D.str) es
    refine ⟨s, ?_, ?_⟩
    · simp only [List.mem_cons, List.not_mem_nil, or_false] at hs
      rcases hs with rfl | rfl | rfl | rfl | rfl | rfl
      · exact ⟨by simp, by simp [o0]⟩
      · exact ⟨by simp, by decide⟩
      · exact ⟨by simp, by decide⟩
      · exact ⟨by simp, by decide⟩
      · exact ⟨by simp, by simp [o0]⟩
      · exact ⟨by simp, by simp [o0]⟩
    · unfold F_lw_sign_text m_lw_sign_text
      refine run_eq (ρ' := [.int c, .str G, .str [k0]]) rfl ?_
      show seqM _ _ [.int c, .gone, .gone] = _
      rw [seq_nx s1]
      rw [seq_nx (ρ1 := [.int c, .str G, .str [k0]]) (by simp -implicitDefEqProofs [asgM, m0, hsg2, e0])]
      rw [seq_nx (if_no (by simp -implicitDefEqProofs [m2', h]))]
      simp -implicitDefEqProofs [retM, m5, l6, es']
theorem colour_text_ex (c : Int) : ∃ s, okS s ∧ F_lw_colour_text [.int c] = some (.str s, [.int c]) := by
  have w1 := emod_in (mixv c 21) 14 (by decide)
  have w3 := emod_in (mixv c 23) 10 (by decide)
  obtain ⟨k1, e1, o1⟩ := at_okc (xs := [97, 98, 99, 100, 101, 102, 103, 104, 105, 46, 65, 72, 47, 32]) (by decide) w1.1 w1.2
  obtain ⟨k3, e3, o3⟩ := at_okc (xs := [97, 98, 99, 100, 101, 102, 103, 104, 105, 46]) (by decide) w3.1 w3.2
  have m1 : F_lw_mix [.int c, .int 21] = some (.int (mixv c 21), [.int c, .int 21]) := mixf c 21 (by decide)
  have m2' : F_lw_mix [.int c, .int 22] = some (.int (mixv c 22), [.int c, .int 22]) := mixf c 22 (by decide)
  have m3 : F_lw_mix [.int c, .int 23] = some (.int (mixv c 23), [.int c, .int 23]) := mixf c 23 (by decide)
  have l14 : 14 ≤ LIM := by decide
  have l10 : 10 ≤ LIM := by decide
  have l2 : 2 ≤ LIM := by decide
  by_cases h : mixv c 22 % 4 = 0
  · refine ⟨[k1, k3], ⟨by simp, by simp [o1, o3]⟩, ?_⟩
    unfold F_lw_colour_text m_lw_colour_text
    refine run_eq (ρ' := [.int c, .str [k1]]) rfl ?_
    show seqM _ _ [.int c, .gone] = _
    rw [seq_nx (ρ1 := [.int c, .str [k1]]) (by simp -implicitDefEqProofs [asgM, m1, l14, e1])]
    refine seq_rt ?_
    rw [if_T (by simp -implicitDefEqProofs [m2', h])]
    simp -implicitDefEqProofs [retM, m3, l10, e3, l2]
  · refine ⟨[k1], ⟨by simp, by simp [o1]⟩, ?_⟩
    unfold F_lw_colour_text m_lw_colour_text
    refine run_eq (ρ' := [.int c, .str [k1]]) rfl ?_
    show seqM _ _ [.int c, .gone] = _
    rw [seq_nx (ρ1 := [.int c, .str [k1]]) (by simp -implicitDefEqProofs [asgM, m1, l14, e1])]
    rw [seq_nx (if_no (by simp -implicitDefEqProofs [m2', h]))]
    simp -implicitDefEqProofs [retM]
theorem name_text_ex (c : Int) : ∃ s, okS s ∧ F_lw_name_text [.int c] = some (.str s, [.int c]) := by
  have m6 : F_lw_mix [.int c, .int 6] = some (.int (mixv c 6), [.int c, .int 6]) := mixf c 6 (by decide)
  have m7 : F_lw_mix [.int c, .int 7] = some (.int (mixv c 7), [.int c, .int 7]) := mixf c 7 (by decide)
  have m8 : F_lw_mix [.int c, .int 8] = some (.int (mixv c 8), [.int c, .int 8]) := mixf c 8 (by decide)
  have m9 : F_lw_mix [.int c, .int 9] = some (.int (mixv c 9), [.int c, .int 9]) := mixf c 9 (by decide)
  have w6 := emod_in (mixv c 6) 11 (by decide)
  obtain ⟨n, hn⟩ : ∃ n : Nat, mixv c 6 % 11 = (n : Int) := ⟨(mixv c 6 % 11).toNat, by omega⟩
  have hn11 : n ≤ 10 := by omega
  have hg : ∀ k : Nat, ∃ x, atI small (mixv c (10 + k) % 26) = some x ∧ okc x := fun k => by
    have w := emod_in (mixv c (10 + k)) 26 (by decide)
    exact at_okc (xs := small) (by decide) w.1 w.2
  obtain ⟨g, hg⟩ := Classical.skolem.mp hg
  have l26 : small.length ≤ LIM := by decide
  have hcomp : compL (nameT 6) yesB (m2 ixD (vM 1) (m2 modD (callM F_lw_mix (consM (vM 0) (consM (coldM (m2 addD (kM (.int 10)) (vM 6))) nilM))) (kM (.int 26)))) [.int c, .str small, .gone, .gone, .gone, .gone, .gone] (upD 0 n) = some (((List.range n).map g).map fun k => D.str [k]) := by
    rw [upD0, List.map_map]
    refine comp_all (fun (k : Nat) => D.int (k : Int)) (fun k => D.str [g k]) (List.range n) fun k hk => ⟨_, rfl, ?_, rfl⟩
    have hk' := List.mem_range.mp hk
    have hm : F_lw_mix [.int c, .int (10 + (k : Int))] = some (.int (mixv c (10 + k)), [.int c, .int (10 + (k : Int))]) := by
      have := mixf c (10 + k) (by omega)
      rw [show ((10 + k : Nat) : Int) = 10 + (k : Int) by omega] at this
      exact this
    simp -implicitDefEqProofs [hm, l26, (hg k).1]
  have hr0 : rng1D (.int (n : Int)) = some (upD 0 n) := rng1_nat (by omega)
  obtain ⟨t, ht⟩ : ∃ t, t = (List.range n).map g := ⟨_, rfl⟩
  have htl : t.length ≤ 10 := by rw [ht]; simpa using hn11
  have hto : ∀ k ∈ t, okc k := by
    rw [ht]; intro k hk
    obtain ⟨j, _, rfl⟩ := List.mem_map.mp hk
    exact (hg j).2
  rw [← ht] at hcomp
  have htL : t.length ≤ LIM := by unfold LIM; omega
  have hj : joinD2 (.str []) (.lst true (t.map fun c => D.str [c])) = some (.str t) := join_chars htL
  have hpos : (0 : Int) < (t.length : Int) + 1 := by omega
  have w7 := emod_in (mixv c 7) ((t.length : Int) + 1) hpos
  obtain ⟨v, hv⟩ : ∃ v : Nat, mixv c 7 % ((t.length : Int) + 1) = (v : Int) := ⟨(mixv c 7 % ((t.length : Int) + 1)).toNat, by omega⟩
  have w8 := emod_in (mixv c 8) 95 (by decide)
  obtain ⟨k8, e8, o8⟩ := at_okc (xs := signs ++ [126, 10]) (by decide) w8.1 (by have : ((signs ++ [126, 10]).length : Int) = 95 := by decide
                                                                                omega)
  have hsg : signs.length + 2 ≤ LIM := by decide
  have hsg2 : (signs ++ [126, 10]).length ≤ LIM := by decide
  have s4 : asgM (nameT 4) (upR (m2 ixD (m2 addD (callM F_lw_signs nilM) (kM (.str [126, 10]))) (m2 modD (callM F_lw_mix (consM (vM 0) (consM (kM (.int 8)) nilM))) (kM (.int 95))))) [.int c, .str small, .str t, .int v, .gone, .gone, .gone] = some (.nx, [.int c, .str small, .str t, .int v, .str [k8], .gone, .gone]) := by
    have h95 : signs.length + 1 + 1 ≤ LIM := by decide
    simp -implicitDefEqProofs only [asgM, ev_upR, ev_m2, ev_call, ev_nil, Option.bind_some, iceL_nil, signs_eq, fzL_nil, true_or, if_true, ev_k, LI.add_str, List.length_cons, List.length_nil, Nat.zero_add, hsg, hsg2, ev_cons, ev_v, List.getElem?_cons_zero, ng_int, Option.map_some, iceL_cons, ice_int, m8, fl_int, or_true, LI.mod_int, show (0 : Int) < 95 by decide, LI.ix_str, e8, fz_str, ev_name, List.set_cons_succ, List.set_cons_zero, Nat.reduceAdd, fzL_cons, fz_int, Bool.and_self]
  have cutA : cutL t none (some (v : Int)) = t.take v := by rw [cut_to (by omega)]; simp
  have cutB : cutL t (some (v : Int)) none = t.drop v := by rw [cut_from (by omega)]; simp
  have cutC : cutL t (some ((v : Int) + 1)) none = t.drop (v + 1) := by rw [cut_from (by omega), show ((v : Int) + 1).toNat = v + 1 by omega]
  have lim1 : (t.take v).length + 1 ≤ LIM := by rw [List.length_take]; unfold LIM; omega
  have lim2 : (t.take v).length + 1 + (t.drop v).length ≤ LIM := by rw [List.length_take, List.length_drop]; unfold LIM; omega
  have lim3 : (t.take v).length + 1 + (t.drop (v + 1)).length ≤ LIM := by rw [List.length_take, List.length_drop]; unfold LIM; omega
  have len2 : (t.take v ++ [k8] ++ t.drop v).length ≤ 20 := by simp only [List.length_append, List.length_take, List.length_drop, List.length_cons, List.length_nil]; omega
  have len3 : (t.take v ++ [k8] ++ t.drop (v + 1)).length ≤ 20 := by simp only [List.length_append, List.length_take, List.length_drop, List.length_cons, List.length_nil]; omega
  have ok2 : ∀ k ∈ t.take v ++ [k8] ++ t.drop v, okc k := okS_app (n := 0) (m := 0) (okS_app (n := 0) (m := 0) (fun k hk => hto k (List.mem_of_mem_take hk)) (by simpa using o8)) fun k hk => hto k (List.mem_of_mem_drop hk)
  have ok3 : ∀ k ∈ t.take v ++ [k8] ++ t.drop (v + 1), okc k := okS_app (n := 0) (m := 0) (okS_app (n := 0) (m := 0) (fun k hk => hto k (List.mem_of_mem_take hk)) (by simpa using o8)) fun k hk => hto k (List.mem_of_mem_drop hk)
  have start : ∀ (s : List Nat), (seqM (ifM (bM (m2 eqD (vM 5) (kM (.int 0)))) (retM (upF (m2 addD (m2 addD (slM (vM 2) noM (soM (vM 3))) (vM 4)) (slM (vM 2) (soM (vM 3)) noM)))) skipM)
      (seqM (ifM (bM (m2 eqD (vM 5) (kM (.int 1)))) (retM (upF (m2 addD (m2 addD (slM (vM 2) noM (soM (vM 3))) (vM 4)) (slM (vM 2) (soM (m2 addD (vM 3) (kM (.int 1)))) noM)))) skipM)
      (retM (upR (vM 2))))) [.int c, .str small, .str t, .int v, .str [k8], .int (mixv c 9 % 4), .gone] = some (.rt (.str s), [.int c, .str small, .str t, .int v, .str [k8], .int (mixv c 9 % 4), .gone]) → F_lw_name_text [.int c] = some (.str s, [.int c]) := by
    intro s h
    unfold F_lw_name_text m_lw_name_text
    refine run_eq (ρ' := [.int c, .str small, .str t, .int v, .str [k8], .int (mixv c 9 % 4), .gone]) rfl ?_
    show seqM _ _ [.int c, .gone, .gone, .gone, .gone, .gone, .gone] = _
    rw [seq_nx (ρ1 := [.int c, .str small, .gone, .gone, .gone, .gone, .gone]) rfl]
    rw [seq_nx (ρ1 := [.int c, .str small, .str t, .gone, .gone, .gone, .gone]) (by
      have hcm := comp_at (vs := [6]) (f := nameT 6) (mc := yesB) (ms := rng1M (m2 modD (callM F_lw_mix (consM (vM 0) (consM (kM (.int 6)) nilM))) (kM (.int 11)))) (ρ := [.int c, .str small, .gone, .gone, .gone, .gone, .gone]) (ds := upD 0 n) (by simp -implicitDefEqProofs [m6, hn, hr0]) (by rw [upD_len]; unfold LIM; omega) hcomp
      refine asg_at (upF_at (d := .str t) ?_) rfl
      rw [ev_cold, ev_m2, hcm]
      simp only [ev_k, Option.bind_some, hj, Option.map_some, ice_str])]
    rw [seq_nx (ρ1 := [.int c, .str small, .str t, .int v, .gone, .gone, .gone]) (by simp -implicitDefEqProofs [asgM, m7, htL, -LI.mod_int, mod_pos hpos, hv])]
    rw [seq_nx s4]
    rw [seq_nx (ρ1 := [.int c, .str small, .str t, .int v, .str [k8], .int (mixv c 9 % 4), .gone]) (by simp -implicitDefEqProofs [asgM, m9])]
    exact h
  by_cases h0 : mixv c 9 % 4 = 0
  · refine ⟨_, ⟨len2, ok2⟩, start _ (seq_rt ?_)⟩
    rw [if_T (by simp -implicitDefEqProofs [h0])]
    generalize t.take v = A at *
    generalize t.drop v = B at *
    simp -implicitDefEqProofs [retM, htL, cutA, cutB, lim1, lim2]
  · by_cases h1 : mixv c 9 % 4 = 1
    · refine ⟨_, ⟨len3, ok3⟩, start _ ?_⟩
      rw [seq_nx (if_no (by simp -implicitDefEqProofs [h0]))]
      refine seq_rt ?_
      rw [if_T (by simp -implicitDefEqProofs [h1])]
      generalize t.take v = A at *
      generalize t.drop (v + 1) = B at *
      simp -implicitDefEqProofs [retM, htL, cutA, cutC, lim1, lim3]
    · refine ⟨t, ⟨by omega, hto⟩, start _ ?_⟩
      rw [seq_nx (if_no (by simp -implicitDefEqProofs [h0]))]
      rw [seq_nx (if_no (by simp -implicitDefEqProofs [h1]))]
      simp -implicitDefEqProofs [retM]
/-- things of other kinds -/
theorem other_ex (c : Int) : ∃ d t, frz d = true ∧ notGone d = true ∧ tyD d = some t ∧ kitB t "str" = some false ∧ F_lw_other [.int c] = some (d, [.int c]) := by
  obtain ⟨s, hs, hn⟩ := name_text_ex c
  have m24 : F_lw_mix [.int c, .int 24] = some (.int (mixv c 24), [.int c, .int 24]) := mixf c 24 (by decide)
  have w := emod_in (mixv c 24) 10 (by decide)
  have l1 : 1 ≤ LIM := by decide
  have l10 : 10 ≤ LIM := by decide
  obtain ⟨d, hd, ed⟩ := atI_mem (xs := [D.non, D.int 0, D.int 7, D.bl true, D.bl false, D.lst false [], D.lst false [.str s], D.tup [.str s], D.dK false [] [], D.dK false [.inr ⟨#[97]⟩] [.str s]]) w.1 w.2
  have hrun : F_lw_other [.int c] = some (d, [.int c]) ∨ frz d = false := by
    by_cases hf : frz d = true
    · left
      unfold F_lw_other m_lw_other
      refine run_eq (ρ' := [.int c, .str s]) rfl ?_
      show seqM _ _ [.int c, .gone] = _
      rw [seq_nx (ρ1 := [.int c, .str s]) (by simp -implicitDefEqProofs [asgM, hn])]
      simp -implicitDefEqProofs [retM, l1, l10, m24, ed, hf]
    · right; simpa using hf
  simp only [List.mem_cons, List.not_mem_nil, or_false] at hd
  rcases hd with rfl | rfl | rfl | rfl | rfl | rfl | rfl | rfl | rfl | rfl
  · exact ⟨_, _, rfl, rfl, rfl, by simp, hrun.resolve_right (by simp)⟩
  · exact ⟨_, _, rfl, rfl, rfl, by simp, hrun.resolve_right (by simp)⟩
  · exact ⟨_, _, rfl, rfl, rfl, by simp, hrun.resolve_right (by simp)⟩
  · exact ⟨_, _, rfl, rfl, rfl, by simp, hrun.resolve_right (by simp)⟩
  · exact ⟨_, _, rfl, rfl, rfl, by simp, hrun.resolve_right (by simp)⟩
  · exact ⟨_, _, rfl, rfl, rfl, by simp, hrun.resolve_right (by simp)⟩
  · exact ⟨_, _, rfl, rfl, rfl, by simp, hrun.resolve_right (by simp)⟩
  · exact ⟨_, _, rfl, rfl, rfl, by simp, hrun.resolve_right (by simp)⟩
  · exact ⟨_, _, rfl, rfl, rfl, by simp, hrun.resolve_right (by simp)⟩
  · exact ⟨_, _, rfl, rfl, rfl, by simp, hrun.resolve_right (by simp)⟩
theorem law_true (ns : List Int) (hl : ns.length ≤ 63) (hb : ∀ z ∈ ns, Builtin.Int.intBits z ≤ 1048576) : ∃ ds', F_law [.scr ns] = some (.bl true, ds') := by
  obtain ⟨n, hn⟩ : ∃ n : Nat, (n : Int) = (if (if (10 : Int) < (ns.length : Int) then 10 else (ns.length : Int)) > 1 then (if (10 : Int) < (ns.length : Int) then 10 else (ns.length : Int)) else 1) := ⟨(if (if (10 : Int) < (ns.length : Int) then 10 else (ns.length : Int)) > 1 then (if (10 : Int) < (ns.length : Int) then 10 else (ns.length : Int)) else 1).toNat, by split <;> omega⟩
  have hn10 : n ≤ 10 := by
    have : (n : Int) ≤ 10 := by rw [hn]; split <;> split <;> omega
    omega
  have hr0 : rng1D (.int (n : Int)) = some (upD 0 n) := rng1_nat (by omega)
  unfold F_law m_law
  refine ⟨[.scr ns], run_eq (ρ' := [.scr ns, .gone, .gone, .gone, .gone, .gone]) rfl ?_⟩
  show seqM _ _ [.scr ns, .gone, .gone, .gone, .gone, .gone] = _
  have hrng : rng1M (mA max2D (consM (kM (.int 1)) (consM (mA min2D (consM (mA lenD (consM (vM 0) nilM)) (consM (kM (.int 10)) nilM))) nilM))) [.scr ns, .gone, .gone, .gone, .gone, .gone] = some (upD 0 n) := by
    rw [ev_rng1]
    have : mA max2D (consM (kM (.int 1)) (consM (mA min2D (consM (mA lenD (consM (vM 0) nilM)) (consM (kM (.int 10)) nilM))) nilM)) [.scr ns, .gone, .gone, .gone, .gone, .gone] = some (.int (n : Int)) := by
      rw [hn]
      simp -implicitDefEqProofs only [ev_mA, ev_cons, ev_k, ev_m2, ev_v, List.getElem?_cons_zero, List.getElem?_cons_succ, Option.bind_some, Option.map_some, ng_scr, ng_int, if_true, ev_nil, len_scr, LI.sub_int, min2_int, max2_int]
    rw [this, Option.bind_some, hr0]
  have l4 : 4 ≤ LIM := by decide
  have inner : ∀ (xs : List D) (c j : Int), (∀ d ∈ xs, frz d = true ∧ notGone d = true ∧ F_lw_right [d] = some (.bl true, [d])) → forL (nameT 3) (ifM (notB (truM (callM F_lw_right (consM (vM 3) nilM)))) (retM (upF (kM (.bl false)))) skipM) [3] xs [.scr ns, .int j, .int c, .gone, .gone, .gone] = some (.nx, [.scr ns, .int j, .int c, .gone, .gone, .gone]) := by
    intro xs c j h
    obtain ⟨ρ', h1, rfl⟩ := for_rel (f := nameT 3) (kl := [3]) (body := ifM (notB (truM (callM F_lw_right (consM (vM 3) nilM)))) (retM (upF (kM (.bl false)))) skipM) (fun (d : D) => d) (fun _ ρ => ρ = [.scr ns, .int j, .int c, .gone, .gone, .gone]) xs _ rfl (by
      rintro _ ρ rfl d hd
      obtain ⟨q1, q2, q3⟩ := h d hd
      have q4 := ice_frz d q1
      exact ⟨_, .nx, [.scr ns, .int j, .int c, d, .gone, .gone], rfl, if_no (by simp -implicitDefEqProofs [q2, q4, q3]), .inl rfl, rfl⟩)
    rw [List.map_id'] at h1
    exact h1
  rw [seq_nx (ρ1 := [.scr ns, .gone, .gone, .gone, .gone, .gone])]
  rotate_left
  · rw [for_at hrng, upD0]
    obtain ⟨ρ', h1, rfl⟩ := for_rel (f := nameT 1) (kl := [1, 2, 3]) (body := (seqM (asgM (nameT 2) (upF (coldM (callM F_lw_cell (consM (vM 0) (consM (vM 1) nilM))))))
  (forM (nameT 3) (ifM (notB (truM (callM F_lw_right (consM (vM 3) nilM)))) (retM (upF (kM (.bl false)))) skipM) [3] (itM (coldM (lstM (consM (coldM (callM F_lw_sign_text (consM (vM 2) nilM))) (consM (coldM (callM F_lw_name_text (consM (vM 2) nilM))) (consM (coldM (callM F_lw_colour_text (consM (vM 2) nilM))) (consM (coldM (callM F_lw_other (consM (vM 2) nilM))) nilM))))))))))  (fun (j : Nat) => D.int (j : Int)) (fun _ ρ => ρ = [.scr ns, .gone, .gone, .gone, .gone, .gone]) (List.range n) _ rfl (by
      rintro _ ρ rfl j hj
      have hc : F_lw_cell [.scr ns, .int j] = some (.int (ns.getD j 0), [.scr ns, .int j]) := cell_eq ns j
      generalize ns.getD j 0 = c at *
      obtain ⟨s1, o1, e1⟩ := sign_text_ex c
      obtain ⟨s2, o2, e2⟩ := name_text_ex c
      obtain ⟨s3, o3, e3⟩ := colour_text_ex c
      obtain ⟨d, t, d1, d2, d3, d4, e4⟩ := other_ex c
      have d5 := ice_frz d d1
      refine ⟨_, .nx, [.scr ns, .int j, .int c, .gone, .gone, .gone], rfl, ?_, .inl rfl, rfl⟩
      show seqM _ _ [.scr ns, .int j, .gone, .gone, .gone, .gone] = _
      rw [seq_nx (ρ1 := [.scr ns, .int j, .int c, .gone, .gone, .gone]) (by simp -implicitDefEqProofs [asgM, hc])]
      rw [for_at (ds := [.str s1, .str s2, .str s3, d]) (by simp -implicitDefEqProofs [e1, e2, e3, e4, d5, d1, l4])]
      refine inner _ c j fun x hx => ?_
      simp only [List.mem_cons, List.not_mem_nil, or_false] at hx
      rcases hx with rfl | rfl | rfl | rfl
      · exact ⟨rfl, rfl, right_str s1 (by have := o1.1; omega) o1.2⟩
      · exact ⟨rfl, rfl, right_str s2 (by have := o2.1; omega) o2.2⟩
      · exact ⟨rfl, rfl, right_str s3 (by have := o3.1; omega) o3.2⟩
      · exact ⟨d1, d2, right_other x t d1 d2 d3 d4⟩)
    exact h1
  have hsg : itM (coldM (callM F_lw_signs nilM)) [.scr ns, .gone, .gone, .gone, .gone, .gone] = some (signs.map fun k => D.str [k]) := by
    simp -implicitDefEqProofs only [ev_it, ev_cold, ev_call, ev_nil, Option.bind_some, iceL_nil, signs_eq, fzL_nil, true_or, if_true, Option.map_some, ice_str, items_str]
  rw [seq_nx (ρ1 := [.scr ns, .gone, .gone, .gone, .gone, .gone])]
  · rfl
  rw [for_at hsg]
  obtain ⟨ρ', h1, rfl⟩ := for_rel (f := nameT 4) (kl := [4, 5]) (body := (seqM (asgM (nameT 5) (upF (coldM (callM F_width_of (consM (vM 4) nilM)))))
  (seqM (ifM (orB (notB (truM (isiM "int" (vM 5)))) (orB (truM (isiM "bool" (vM 5))) (bM (m2 nisD (callM F_is_sign (consM (vM 4) nilM)) (kM (.bl true)))))) (retM (upF (kM (.bl false)))) skipM)
  (ifM (bM (m2 neD (vM 5) (m2 addD (kM (.int 1)) (mA intD (consM (m2 inD (vM 4) (kM (.str great))) nilM))))) (retM (upF (kM (.bl false)))) skipM)))) (fun (k : Nat) => D.str [k]) (fun _ ρ => ρ = [.scr ns, .gone, .gone, .gone, .gone, .gone]) signs _ rfl (by
    rintro _ ρ rfl k hk
    have ok : okc k := by
      have : ∀ k ∈ signs, okc k := by decide
      exact this k hk
    have hsn := is_sign_eq [k] (by simp) (by simpa using ok)
    have hs1 : sgn [k] = true := by simpa [sgn] using hk
    rw [hs1] at hsn
    have hw : F_width_of [.str [k]] = some (.int (wd k), [.str [k]]) := width_eq k
    refine ⟨_, .nx, [.scr ns, .gone, .gone, .gone, .str [k], .int (wd k)], rfl, ?_, .inl rfl, rfl⟩
    show seqM _ _ [.scr ns, .gone, .gone, .gone, .str [k], .gone] = _
    rw [seq_nx (ρ1 := [.scr ns, .gone, .gone, .gone, .str [k], .int (wd k)]) (by simp -implicitDefEqProofs [asgM, hw])]
    have hnis : nisD (.bl true) (.bl true) = some (.bl false) := rfl
    rw [seq_nx (if_no (by simp -implicitDefEqProofs [hsn, hnis]))]
    refine if_no ?_
    by_cases hg : k ∈ great
    · simp -implicitDefEqProofs [hg, wd]
    · simp -implicitDefEqProofs [hg, wd])
  exact h1
end LW
namespace LW
open PySem L2 PyProof.Rows LI
/-! ### the text -/
def topS (i : Nat) : Stmt := PySem.Challenge.pw_outweave_k11_signs_and_names.main.body.getD i (.Pass ⟨0, 0, 0, 0⟩)
abbrev s_is_sign : Stmt := topS 7
abbrev N_is_sign : List Str := ["thing"]
theorem sc_is_sign : FnScope N_is_sign ["thing"] (defScope s_is_sign) := ⟨rfl, rfl, rfl, by decide +kernel, rfl, by decide +kernel, by decide +kernel⟩
abbrev s_is_name : Stmt := topS 8
abbrev N_is_name : List Str := ["thing", "sign"]
theorem sc_is_name : FnScope N_is_name ["thing"] (defScope s_is_name) := ⟨rfl, rfl, rfl, by decide +kernel, rfl, by decide +kernel, by decide +kernel⟩
abbrev s_is_colour : Stmt := topS 9
abbrev N_is_colour : List Str := ["thing"]
theorem sc_is_colour : FnScope N_is_colour ["thing"] (defScope s_is_colour) := ⟨rfl, rfl, rfl, by decide +kernel, rfl, by decide +kernel, by decide +kernel⟩
abbrev s_width_of : Stmt := topS 10
abbrev N_width_of : List Str := ["sign"]
theorem sc_width_of : FnScope N_width_of ["sign"] (defScope s_width_of) := ⟨rfl, rfl, rfl, by decide +kernel, rfl, by decide +kernel, by decide +kernel⟩
abbrev s_lw_cell : Stmt := topS 12
abbrev N_lw_cell : List Str := ["_law_script", "_law_k"]
theorem sc_lw_cell : FnScope N_lw_cell ["_law_script", "_law_k"] (defScope s_lw_cell) := ⟨rfl, rfl, rfl, by decide +kernel, rfl, by decide +kernel, by decide +kernel⟩
abbrev s_lw_mix : Stmt := topS 13
abbrev N_lw_mix : List Str := ["_law_cell_here", "_law_k", "_law_rest", "_law_turn", "_law_number"]
theorem sc_lw_mix : FnScope N_lw_mix ["_law_cell_here", "_law_k"] (defScope s_lw_mix) := ⟨rfl, rfl, rfl, by decide +kernel, rfl, by decide +kernel, by decide +kernel⟩
abbrev s_lw_signs : Stmt := topS 14
abbrev N_lw_signs : List Str := ["_law_some"]
theorem sc_lw_signs : FnScope N_lw_signs [] (defScope s_lw_signs) := ⟨rfl, rfl, rfl, by decide +kernel, rfl, by decide +kernel, by decide +kernel⟩
abbrev s_lw_small : Stmt := topS 15
abbrev N_lw_small : List Str := ["_law_text", "_law_sign"]
theorem sc_lw_small : FnScope N_lw_small ["_law_text"] (defScope s_lw_small) := ⟨rfl, rfl, rfl, by decide +kernel, rfl, by decide +kernel, by decide +kernel⟩
abbrev s_lw_sign_text : Stmt := topS 16
abbrev N_lw_sign_text : List Str := ["_law_cell_here", "_law_signs_here", "_law_one"]
theorem sc_lw_sign_text : FnScope N_lw_sign_text ["_law_cell_here"] (defScope s_lw_sign_text) := ⟨rfl, rfl, rfl, by decide +kernel, rfl, by decide +kernel, by decide +kernel⟩
abbrev s_lw_name_text : Stmt := topS 17
abbrev N_lw_name_text : List Str := ["_law_cell_here", "_law_letters", "_law_name", "_law_at", "_law_odd", "_law_way", "_law_k"]
theorem sc_lw_name_text : FnScope N_lw_name_text ["_law_cell_here"] (defScope s_lw_name_text) := ⟨rfl, rfl, rfl, by decide +kernel, rfl, by decide +kernel, by decide +kernel⟩
abbrev s_lw_colour_text : Stmt := topS 18
abbrev N_lw_colour_text : List Str := ["_law_cell_here", "_law_one"]
theorem sc_lw_colour_text : FnScope N_lw_colour_text ["_law_cell_here"] (defScope s_lw_colour_text) := ⟨rfl, rfl, rfl, by decide +kernel, rfl, by decide +kernel, by decide +kernel⟩
abbrev s_lw_other : Stmt := topS 19
abbrev N_lw_other : List Str := ["_law_cell_here", "_law_one"]
theorem sc_lw_other : FnScope N_lw_other ["_law_cell_here"] (defScope s_lw_other) := ⟨rfl, rfl, rfl, by decide +kernel, rfl, by decide +kernel, by decide +kernel⟩
abbrev s_lw_due : Stmt := topS 20
abbrev N_lw_due : List Str := ["_law_thing", "_law_sign", "_law_name"]
theorem sc_lw_due : FnScope N_lw_due ["_law_thing"] (defScope s_lw_due) := ⟨rfl, rfl, rfl, by decide +kernel, rfl, by decide +kernel, by decide +kernel⟩
abbrev s_lw_right : Stmt := topS 21
abbrev N_lw_right : List Str := ["_law_thing", "_law_found", "_law_one"]
theorem sc_lw_right : FnScope N_lw_right ["_law_thing"] (defScope s_lw_right) := ⟨rfl, rfl, rfl, by decide +kernel, rfl, by decide +kernel, by decide +kernel⟩
abbrev s_law : Stmt := topS 22
abbrev N_law : List Str := ["_law_script", "_law_k", "_law_cell_here", "_law_thing", "_law_sign", "_law_width"]
theorem sc_law : FnScope N_law ["_law_script"] (defScope s_law) := ⟨rfl, rfl, rfl, by decide +kernel, rfl, by decide +kernel, by decide +kernel⟩
/-! ### what the top has written -/
structure Tx (K : PySem.W.Frag) (mg : Str → Option Value) where
  cl : Nat → Addr
  a_is_sign : Addr
  d_is_sign : FuncData
  f_is_sign : Fun K "is_sign" "is_sign" s_is_sign a_is_sign d_is_sign
  b_is_sign : Binds K d_is_sign ["thing"] []
  g_is_sign : mg "is_sign" = some (.ref a_is_sign)
  a_is_name : Addr
  d_is_name : FuncData
  f_is_name : Fun K "is_name" "is_name" s_is_name a_is_name d_is_name
  b_is_name : Binds K d_is_name ["thing"] []
  g_is_name : mg "is_name" = some (.ref a_is_name)
  a_is_colour : Addr
  d_is_colour : FuncData
  f_is_colour : Fun K "is_colour" "is_colour" s_is_colour a_is_colour d_is_colour
  b_is_colour : Binds K d_is_colour ["thing"] []
  g_is_colour : mg "is_colour" = some (.ref a_is_colour)
  a_width_of : Addr
  d_width_of : FuncData
  f_width_of : Fun K "width_of" "width_of" s_width_of a_width_of d_width_of
  b_width_of : Binds K d_width_of ["sign"] []
  g_width_of : mg "width_of" = some (.ref a_width_of)
  a_lw_cell : Addr
  d_lw_cell : FuncData
  f_lw_cell : Fun K "_law_cell" "_law_cell" s_lw_cell a_lw_cell d_lw_cell
  b_lw_cell : Binds K d_lw_cell ["_law_script", "_law_k"] []
  g_lw_cell : mg "_law_cell" = some (.ref a_lw_cell)
  a_lw_mix : Addr
  d_lw_mix : FuncData
  f_lw_mix : Fun K "_law_mix" "_law_mix" s_lw_mix a_lw_mix d_lw_mix
  b_lw_mix : Binds K d_lw_mix ["_law_cell_here", "_law_k"] []
  g_lw_mix : mg "_law_mix" = some (.ref a_lw_mix)
  a_lw_signs : Addr
  d_lw_signs : FuncData
  f_lw_signs : Fun K "_law_signs" "_law_signs" s_lw_signs a_lw_signs d_lw_signs
  b_lw_signs : Binds K d_lw_signs [] []
  g_lw_signs : mg "_law_signs" = some (.ref a_lw_signs)
  a_lw_small : Addr
  d_lw_small : FuncData
  f_lw_small : Fun K "_law_small" "_law_small" s_lw_small a_lw_small d_lw_small
  b_lw_small : Binds K d_lw_small ["_law_text"] []
  g_lw_small : mg "_law_small" = some (.ref a_lw_small)
  a_lw_sign_text : Addr
  d_lw_sign_text : FuncData
  f_lw_sign_text : Fun K "_law_sign_text" "_law_sign_text" s_lw_sign_text a_lw_sign_text d_lw_sign_text
  b_lw_sign_text : Binds K d_lw_sign_text ["_law_cell_here"] []
  g_lw_sign_text : mg "_law_sign_text" = some (.ref a_lw_sign_text)
  a_lw_name_text : Addr
  d_lw_name_text : FuncData
  f_lw_name_text : Fun K "_law_name_text" "_law_name_text" s_lw_name_text a_lw_name_text d_lw_name_text
  b_lw_name_text : Binds K d_lw_name_text ["_law_cell_here"] []
  g_lw_name_text : mg "_law_name_text" = some (.ref a_lw_name_text)
  a_lw_colour_text : Addr
  d_lw_colour_text : FuncData
  f_lw_colour_text : Fun K "_law_colour_text" "_law_colour_text" s_lw_colour_text a_lw_colour_text d_lw_colour_text
  b_lw_colour_text : Binds K d_lw_colour_text ["_law_cell_here"] []
  g_lw_colour_text : mg "_law_colour_text" = some (.ref a_lw_colour_text)
  a_lw_other : Addr
  d_lw_other : FuncData
  f_lw_other : Fun K "_law_other" "_law_other" s_lw_other a_lw_other d_lw_other
  b_lw_other : Binds K d_lw_other ["_law_cell_here"] []
  g_lw_other : mg "_law_other" = some (.ref a_lw_other)
  a_lw_due : Addr
  d_lw_due : FuncData
  f_lw_due : Fun K "_law_due" "_law_due" s_lw_due a_lw_due d_lw_due
  b_lw_due : Binds K d_lw_due ["_law_thing"] []
  g_lw_due : mg "_law_due" = some (.ref a_lw_due)
  a_lw_right : Addr
  d_lw_right : FuncData
  f_lw_right : Fun K "_law_right" "_law_right" s_lw_right a_lw_right d_lw_right
  b_lw_right : Binds K d_lw_right ["_law_thing"] []
  g_lw_right : mg "_law_right" = some (.ref a_lw_right)
  a_law : Addr
  d_law : FuncData
  f_law : Fun K "law" "law" s_law a_law d_law
  b_law : Binds K d_law ["_law_script"] []
  g_law : mg "law" = some (.ref a_law)
  z_bool : mg "bool" = none
  z_int : mg "int" = none
  z_isinstance : mg "isinstance" = none
  z_len : mg "len" = none
  z_max : mg "max" = none
  z_min : mg "min" = none
  z_range : mg "range" = none
  z_str : mg "str" = none
  k_COLOURS : ∃ u, mg "COLOURS" = some u ∧ RelV (.str ⟨([97, 98, 99, 100, 101, 102, 103, 104, 46] : List Nat).toArray⟩) u
  k_FIRST : ∃ u, mg "FIRST" = some u ∧ RelV (.str ⟨([32] : List Nat).toArray⟩) u
  k_GREAT : ∃ u, mg "GREAT" = some u ∧ RelV (.str ⟨([65, 66, 67, 68, 69, 70, 71, 72, 73, 74, 75, 76, 77, 78, 79, 80, 81, 82, 83, 84, 85, 86, 87, 88, 89, 90] : List Nat).toArray⟩) u
  k_LAST : ∃ u, mg "LAST" = some u ∧ RelV (.str ⟨([125] : List Nat).toArray⟩) u
  k_LETTERS : ∃ u, mg "LETTERS" = some u ∧ RelV (.str ⟨([97, 98, 99, 100, 101, 102, 103, 104, 105, 106, 107, 108, 109, 110, 111, 112, 113, 114, 115, 116, 117, 118, 119, 120, 121, 122] : List Nat).toArray⟩) u
  k_LONGEST : ∃ u, mg "LONGEST" = some u ∧ RelV (.int 8) u
/-! ### the walks -/
section
variable {P : Program} {w : World} {K : PySem.W.Frag} {mg : Str → Option Value} {base : Heap}
theorem ok_is_sign (T : Tx K mg) : FnOk P w K mg base CX0 1 T.a_is_sign T.d_is_sign ["thing"] (spD ⟨K, T.cl⟩ F_is_sign) := by
  refine ok_def (N := N_is_sign) (m := m_is_sign) (kp := [true]) T.f_is_sign sc_is_sign rfl (fun cdv A outer s H XE en ek hr => ?_)
  have hu := hr.units
  have nd := (sc_is_sign).nd
  exact (s_one (s_ret (g_f (f_and (r_f (f_isi' (r_v 0) (pe_bltn (v := .ty "str") (u := .type "str") (by rfl) T.z_str (by decide +kernel) rfl) T.z_isinstance)) (f_and (r_f (v_cmp (op_eqD hu) op_eqqD flat_eq (v_r (r_f (f_blt cr_len op_lenD (by rfl) T.z_len (by decide +kernel) (a_cons (r_v 0) a_nil)))) (v_r (r_f f_int)) (nomark _))) (f_one (f_ch opr_le op_cmpD opr_le op_cmpD (r_f (f_glS [32] T.k_FIRST)) (r_v 0) (r_f (f_glS [125] T.k_LAST)))))))))
theorem ok_is_name (T : Tx K mg) : FnOk P w K mg base CX0 1 T.a_is_name T.d_is_name ["thing"] (spD ⟨K, T.cl⟩ F_is_name) := by
  refine ok_def (N := N_is_name) (m := m_is_name) (kp := [true]) T.f_is_name sc_is_name rfl (fun cdv A outer s H XE en ek hr => ?_)
  have hu := hr.units
  have nd := (sc_is_name).nd
  exact (s_cons (s_if (t_w (w_or (t_not (t_val (r_f (f_isi' (r_v 0) (pe_bltn (v := .ty "str") (u := .type "str") (by rfl) T.z_str (by decide +kernel) rfl) T.z_isinstance)))) (w_or1 (t_not (t_ch opr_le op_cmpD opr_le op_cmpD (r_f f_int) (r_f (f_blt cr_len op_lenD (by rfl) T.z_len (by decide +kernel) (a_cons (r_v 0) a_nil))) (r_f (f_glI 8 T.k_LONGEST))))))) (s_one (s_ret (g_f f_bl))) s_nil)
      (s_cons (s_for [1] PassesOwn.never rfl (i_seq (r_v 0)) (g_name 1 nd (by rfl) (by first | exact Or.inl rfl | exact Or.inr rfl) (by rw [ek]; decide)) (s_one (s_if (t_nin hu (r_v 1) (r_f (f_glS [97, 98, 99, 100, 101, 102, 103, 104, 105, 106, 107, 108, 109, 110, 111, 112, 113, 114, 115, 116, 117, 118, 119, 120, 121, 122] T.k_LETTERS))) (s_one (s_ret (g_f f_bl))) s_nil)))
      (s_one (s_ret (g_f f_bl)))))
theorem ok_is_colour (T : Tx K mg) : FnOk P w K mg base CX0 1 T.a_is_colour T.d_is_colour ["thing"] (spD ⟨K, T.cl⟩ F_is_colour) := by
  refine ok_def (N := N_is_colour) (m := m_is_colour) (kp := [true]) T.f_is_colour sc_is_colour rfl (fun cdv A outer s H XE en ek hr => ?_)
  have hu := hr.units
  have nd := (sc_is_colour).nd
  exact (s_one (s_ret (g_f (f_and (r_f (f_isi' (r_v 0) (pe_bltn (v := .ty "str") (u := .type "str") (by rfl) T.z_str (by decide +kernel) rfl) T.z_isinstance)) (f_and (r_f (v_cmp (op_eqD hu) op_eqqD flat_eq (v_r (r_f (f_blt cr_len op_lenD (by rfl) T.z_len (by decide +kernel) (a_cons (r_v 0) a_nil)))) (v_r (r_f f_int)) (nomark _))) (f_one (f_in hu (r_v 0) (r_f (f_glS [97, 98, 99, 100, 101, 102, 103, 104, 46] T.k_COLOURS)))))))))
theorem ok_width_of (T : Tx K mg) : FnOk P w K mg base CX0 1 T.a_width_of T.d_width_of ["sign"] (spD ⟨K, T.cl⟩ F_width_of) := by
  refine ok_def (N := N_width_of) (m := m_width_of) (kp := [true]) T.f_width_of sc_width_of rfl (fun cdv A outer s H XE en ek hr => ?_)
  have hu := hr.units
  have nd := (sc_width_of).nd
  exact (s_cons (s_if (t_in hu (r_v 0) (r_f (f_glS [65, 66, 67, 68, 69, 70, 71, 72, 73, 74, 75, 76, 77, 78, 79, 80, 81, 82, 83, 84, 85, 86, 87, 88, 89, 90] T.k_GREAT))) (s_one (s_ret (g_f f_int))) s_nil)
      (s_one (s_ret (g_f f_int))))
theorem ok_lw_cell (T : Tx K mg) : FnOk P w K mg base CX0 1 T.a_lw_cell T.d_lw_cell ["_law_script", "_law_k"] (spD ⟨K, T.cl⟩ F_lw_cell) := by
  refine ok_def (N := N_lw_cell) (m := m_lw_cell) (kp := [true, true]) T.f_lw_cell sc_lw_cell rfl (fun cdv A outer s H XE en ek hr => ?_)
  have hu := hr.units
  have nd := (sc_lw_cell).nd
  exact (s_cons (s_if (t_cmp opr_lt op_cmpD (r_v 1) (r_f (f_blt cr_len op_lenD (by rfl) T.z_len (by decide +kernel) (a_cons (r_v 0) a_nil))) (nomark _)) (s_one (s_ret (g_r (r_ix hu (r_v 0) (r_v 1))))) s_nil)
      (s_one (s_ret (g_f f_int))))
theorem ok_lw_mix (T : Tx K mg) : FnOk P w K mg base CX0 1 T.a_lw_mix T.d_lw_mix ["_law_cell_here", "_law_k"] (spD ⟨K, T.cl⟩ F_lw_mix) := by
  refine ok_def (N := N_lw_mix) (m := m_lw_mix) (kp := [true, true]) T.f_lw_mix sc_lw_mix rfl (fun cdv A outer s H XE en ek hr => ?_)
  have hu := hr.units
  have nd := (sc_lw_mix).nd
  exact (s_cons (s_if (t_cmp opr_gt op_cmpD (r_v 0) (r_f (f_bin op_pow op_powD (r_f f_int) (r_f f_int))) (nomark _)) (s_cons (s_set 2 nd (by rfl) (by first | exact Or.inl rfl | exact Or.inr rfl) (by rw [ek]; decide) (g_r (r_v 0)))
      (s_cons (s_for [3] PassesOwn.never rfl (i_rng1 (by rfl) T.z_range (r_v 1)) (g_name 3 nd (by rfl) (by first | exact Or.inl rfl | exact Or.inr rfl) (by rw [ek]; decide)) (s_one (s_set 2 nd (by rfl) (by first | exact Or.inl rfl | exact Or.inr rfl) (by rw [ek]; decide) (g_f (f_bin op_fdivW op_fdivD (r_v 2) (r_f (f_bin op_pow op_powD (r_f f_int) (r_f f_int))))))))
      (s_one (s_ret (g_f (f_bin op_mod op_modD (r_v 2) (r_f (f_bin op_pow op_powD (r_f f_int) (r_f f_int))))))))) s_nil)
      (s_cons (s_set 4 nd (by rfl) (by first | exact Or.inl rfl | exact Or.inr rfl) (by rw [ek]; decide) (g_f (f_cold (f_bin opr_add op_addD (r_f (f_bin op_mod op_modD (r_v 0) (r_f f_int))) (r_f f_int)))))
      (s_cons (s_for [3] PassesOwn.never rfl (i_rng1 (by rfl) T.z_range (r_f (f_bin opr_add op_addD (r_v 1) (r_f f_int)))) (g_name 3 nd (by rfl) (by first | exact Or.inl rfl | exact Or.inr rfl) (by rw [ek]; decide)) (s_one (s_set 4 nd (by rfl) (by first | exact Or.inl rfl | exact Or.inr rfl) (by rw [ek]; decide) (g_f (f_bin op_mod op_modD (r_f (f_bin opr_add op_addD (r_f (f_bin opr_mul op_mulD (r_v 4) (r_f f_int))) (r_f f_int))) (r_f f_int))))))
      (s_one (s_ret (g_f (f_bin op_fdivW op_fdivD (r_f (f_bin op_mod op_modD (r_f (f_bin opr_mul op_mulD (r_v 4) (r_v 4))) (r_f f_int))) (r_f f_int))))))))
theorem ok_lw_signs (T : Tx K mg) : FnOk P w K mg base CX0 1 T.a_lw_signs T.d_lw_signs [] (spD ⟨K, T.cl⟩ F_lw_signs) := by
  refine ok_def (N := N_lw_signs) (m := m_lw_signs) (kp := []) T.f_lw_signs sc_lw_signs rfl (fun cdv A outer s H XE en ek hr => ?_)
  have hu := hr.units
  have nd := (sc_lw_signs).nd
  exact (s_cons (s_set 0 nd (by rfl) (by first | exact Or.inl rfl | exact Or.inr rfl) (by rw [ek]; decide) (g_f (f_str [32, 33, 34, 35, 36, 38, 39, 40, 41, 42, 43, 44, 45, 46, 47, 48, 49, 50, 51, 52, 53, 54, 55, 56, 57, 58, 59, 60, 61, 62, 63, 64, 65, 66, 67, 68, 69, 70, 71, 72, 73, 74, 75, 76, 77, 78, 79, 80, 81, 82, 83, 84, 85, 86, 87, 88, 89, 90])))
      (s_one (s_ret (g_f (f_bin opr_add op_addD (r_v 0) (r_f (f_str [91, 92, 93, 94, 95, 96, 97, 98, 99, 100, 101, 102, 103, 104, 105, 106, 107, 108, 109, 110, 111, 112, 113, 114, 115, 116, 117, 118, 119, 120, 121, 122, 123, 124, 125])))))))
theorem ok_lw_small (T : Tx K mg) : FnOk P w K mg base CX0 1 T.a_lw_small T.d_lw_small ["_law_text"] (spD ⟨K, T.cl⟩ F_lw_small) := by
  refine ok_def (N := N_lw_small) (m := m_lw_small) (kp := [true]) T.f_lw_small sc_lw_small rfl (fun cdv A outer s H XE en ek hr => ?_)
  have hu := hr.units
  have nd := (sc_lw_small).nd
  exact (s_one (s_ret (g_f (v_cmp (op_eqD hu) op_eqqD flat_eq (v_r (r_f (f_lcV [("_law_sign", 1)] (by rfl) rfl nd (i_seqV (r_v 0)) (blkOk_by (own := [("_law_sign", 1)]) (N := N_lw_small) (sc := defScope s_lw_small) (by decide +kernel)) (fun _ _ _ _ _ => (g_name 1 nd (by rfl) (by first | exact Or.inl rfl | exact Or.inr rfl) (by rw [ek]; decide))) (fun _ _ _ _ _ => (ts_one (t_nin hu (r_v 1) (r_f (f_str [97, 98, 99, 100, 101, 102, 103, 104, 105, 106, 107, 108, 109, 110, 111, 112, 113, 114, 115, 116, 117, 118, 119, 120, 121, 122]))))) (fun _ _ _ _ _ => (r_v 1)) (by decide) (by rw [ek]; decide)))) (v_r (r_f (f_lst a_nil))) (nomark _)))))
theorem ok_lw_sign_text (T : Tx K mg) : FnOk P w K mg base CX0 2 T.a_lw_sign_text T.d_lw_sign_text ["_law_cell_here"] (spD ⟨K, T.cl⟩ F_lw_sign_text) := by
  refine ok_def (N := N_lw_sign_text) (m := m_lw_sign_text) (kp := [true]) T.f_lw_sign_text sc_lw_sign_text rfl (fun cdv A outer s H XE en ek hr => ?_)
  have hu := hr.units
  have nd := (sc_lw_sign_text).nd
  exact (s_cons (s_set 1 nd (by rfl) (by first | exact Or.inl rfl | exact Or.inr rfl) (by rw [ek]; decide) (g_f (f_cold (f_bin opr_add op_addD (r_f (f_call0 (ok_lw_signs T) (hr.mono (by decide)) (by rfl) T.g_lw_signs T.f_lw_signs.kp T.b_lw_signs pass0)) (r_f (f_str [126, 10, 9]))))))
      (s_cons (s_set 2 nd (by rfl) (by first | exact Or.inl rfl | exact Or.inr rfl) (by rw [ek]; decide) (g_r (r_ix hu (r_v 1) (r_f (f_bin op_mod op_modD (r_f (f_call (ok_lw_mix T) (hr.mono (by decide)) (by rfl) T.g_lw_mix T.f_lw_mix.kp T.b_lw_mix pass0 (a_cons (r_v 0) (a_cons (r_f f_int) a_nil)))) (r_f f_int))))))
      (s_cons (s_if (tv_cmp (op_eqD hu) op_eqqD flat_eq (v_r (r_f (f_bin op_mod op_modD (r_f (f_call (ok_lw_mix T) (hr.mono (by decide)) (by rfl) T.g_lw_mix T.f_lw_mix.kp T.b_lw_mix pass0 (a_cons (r_v 0) (a_cons (r_f f_int) a_nil)))) (r_f f_int)))) (v_r (r_f f_int)) (nomark _)) (s_one (s_ret (g_r (r_ix hu (r_f (f_lst (a_cons (r_f (f_cold (f_bin opr_add op_addD (r_v 2) (r_ix hu (r_v 1) (r_f (f_bin op_mod op_modD (r_f (f_call (ok_lw_mix T) (hr.mono (by decide)) (by rfl) T.g_lw_mix T.f_lw_mix.kp T.b_lw_mix pass0 (a_cons (r_v 0) (a_cons (r_f f_int) a_nil)))) (r_f f_int))))))) (a_cons (r_f (f_str [])) (a_cons (r_f (f_cold (f_bin opr_add op_addD (r_v 2) (r_v 2)))) a_nil))))) (r_f (f_bin op_mod op_modD (r_f (f_call (ok_lw_mix T) (hr.mono (by decide)) (by rfl) T.g_lw_mix T.f_lw_mix.kp T.b_lw_mix pass0 (a_cons (r_v 0) (a_cons (r_f f_int) a_nil)))) (r_f f_int))))))) s_nil)
      (s_one (s_ret (g_r (r_ix hu (r_f (f_lst (a_cons (r_v 2) (a_cons (r_f (f_str [126])) (a_cons (r_f (f_str [125])) (a_cons (r_f (f_str [32])) (a_cons (r_v 2) (a_cons (r_v 2) a_nil)))))))) (r_f (f_bin op_mod op_modD (r_f (f_call (ok_lw_mix T) (hr.mono (by decide)) (by rfl) T.g_lw_mix T.f_lw_mix.kp T.b_lw_mix pass0 (a_cons (r_v 0) (a_cons (r_f f_int) a_nil)))) (r_f f_int))))))))))
theorem ok_lw_name_text (T : Tx K mg) : FnOk P w K mg base CX0 2 T.a_lw_name_text T.d_lw_name_text ["_law_cell_here"] (spD ⟨K, T.cl⟩ F_lw_name_text) := by
  refine ok_def (N := N_lw_name_text) (m := m_lw_name_text) (kp := [true]) T.f_lw_name_text sc_lw_name_text rfl (fun cdv A outer s H XE en ek hr => ?_)
  have hu := hr.units
  have nd := (sc_lw_name_text).nd
  exact (s_cons (s_set 1 nd (by rfl) (by first | exact Or.inl rfl | exact Or.inr rfl) (by rw [ek]; decide) (g_f (f_str [97, 98, 99, 100, 101, 102, 103, 104, 105, 106, 107, 108, 109, 110, 111, 112, 113, 114, 115, 116, 117, 118, 119, 120, 121, 122])))
      (s_cons (s_set 2 nd (by rfl) (by first | exact Or.inl rfl | exact Or.inr rfl) (by rw [ek]; decide) (g_f (f_cold (f_join (r_f (f_str [])) (r_f (f_lcV [("_law_k", 6)] (by rfl) rfl nd (i_up (i_rng1 (by rfl) T.z_range (r_f (f_bin op_mod op_modD (r_f (f_call (ok_lw_mix T) (hr.mono (by decide)) (by rfl) T.g_lw_mix T.f_lw_mix.kp T.b_lw_mix pass0 (a_cons (r_v 0) (a_cons (r_f f_int) a_nil)))) (r_f f_int))))) (blkOk_by (own := [("_law_k", 6)]) (N := N_lw_name_text) (sc := defScope s_lw_name_text) (by decide +kernel)) (fun _ _ _ _ _ => (g_name 6 nd (by rfl) (by first | exact Or.inl rfl | exact Or.inr rfl) (by rw [ek]; decide))) (fun _ _ _ _ _ => ts_nil) (fun _ _ _ _ _ => (r_ix hu (r_v 1) (r_f (f_bin op_mod op_modD (r_f (f_call (ok_lw_mix T) (hr.mono (by decide)) (by rfl) T.g_lw_mix T.f_lw_mix.kp T.b_lw_mix pass0 (a_cons (r_v 0) (a_cons (r_f (f_cold (f_bin opr_add op_addD (r_f f_int) (r_v 6)))) a_nil)))) (r_f f_int))))) (by decide) (by rw [ek]; decide)))))))
      (s_cons (s_set 3 nd (by rfl) (by first | exact Or.inl rfl | exact Or.inr rfl) (by rw [ek]; decide) (g_f (f_bin op_mod op_modD (r_f (f_call (ok_lw_mix T) (hr.mono (by decide)) (by rfl) T.g_lw_mix T.f_lw_mix.kp T.b_lw_mix pass0 (a_cons (r_v 0) (a_cons (r_f f_int) a_nil)))) (r_f (f_bin opr_add op_addD (r_f (f_blt cr_len op_lenD (by rfl) T.z_len (by decide +kernel) (a_cons (r_v 2) a_nil))) (r_f f_int))))))
      (s_cons (s_set 4 nd (by rfl) (by first | exact Or.inl rfl | exact Or.inr rfl) (by rw [ek]; decide) (g_r (r_ix hu (r_f (f_bin opr_add op_addD (r_f (f_call0 (ok_lw_signs T) (hr.mono (by decide)) (by rfl) T.g_lw_signs T.f_lw_signs.kp T.b_lw_signs pass0)) (r_f (f_str [126, 10])))) (r_f (f_bin op_mod op_modD (r_f (f_call (ok_lw_mix T) (hr.mono (by decide)) (by rfl) T.g_lw_mix T.f_lw_mix.kp T.b_lw_mix pass0 (a_cons (r_v 0) (a_cons (r_f f_int) a_nil)))) (r_f f_int))))))
      (s_cons (s_set 5 nd (by rfl) (by first | exact Or.inl rfl | exact Or.inr rfl) (by rw [ek]; decide) (g_f (f_bin op_mod op_modD (r_f (f_call (ok_lw_mix T) (hr.mono (by decide)) (by rfl) T.g_lw_mix T.f_lw_mix.kp T.b_lw_mix pass0 (a_cons (r_v 0) (a_cons (r_f f_int) a_nil)))) (r_f f_int))))
      (s_cons (s_if (tv_cmp (op_eqD hu) op_eqqD flat_eq (v_r (r_v 5)) (v_r (r_f f_int)) (nomark _)) (s_one (s_ret (g_f (f_bin opr_add op_addD (r_f (f_bin opr_add op_addD (r_f (f_sl (r_v 2) o_none (o_some (r_v 3)))) (r_v 4))) (r_f (f_sl (r_v 2) (o_some (r_v 3)) o_none)))))) s_nil)
      (s_cons (s_if (tv_cmp (op_eqD hu) op_eqqD flat_eq (v_r (r_v 5)) (v_r (r_f f_int)) (nomark _)) (s_one (s_ret (g_f (f_bin opr_add op_addD (r_f (f_bin opr_add op_addD (r_f (f_sl (r_v 2) o_none (o_some (r_v 3)))) (r_v 4))) (r_f (f_sl (r_v 2) (o_some (r_f (f_bin opr_add op_addD (r_v 3) (r_f f_int)))) o_none)))))) s_nil)
      (s_one (s_ret (g_r (r_v 2)))))))))))
theorem ok_lw_colour_text (T : Tx K mg) : FnOk P w K mg base CX0 2 T.a_lw_colour_text T.d_lw_colour_text ["_law_cell_here"] (spD ⟨K, T.cl⟩ F_lw_colour_text) := by
  refine ok_def (N := N_lw_colour_text) (m := m_lw_colour_text) (kp := [true]) T.f_lw_colour_text sc_lw_colour_text rfl (fun cdv A outer s H XE en ek hr => ?_)
  have hu := hr.units
  have nd := (sc_lw_colour_text).nd
  exact (s_cons (s_set 1 nd (by rfl) (by first | exact Or.inl rfl | exact Or.inr rfl) (by rw [ek]; decide) (g_r (r_ix hu (r_f (f_str [97, 98, 99, 100, 101, 102, 103, 104, 105, 46, 65, 72, 47, 32])) (r_f (f_bin op_mod op_modD (r_f (f_call (ok_lw_mix T) (hr.mono (by decide)) (by rfl) T.g_lw_mix T.f_lw_mix.kp T.b_lw_mix pass0 (a_cons (r_v 0) (a_cons (r_f f_int) a_nil)))) (r_f f_int))))))
      (s_cons (s_if (tv_cmp (op_eqD hu) op_eqqD flat_eq (v_r (r_f (f_bin op_mod op_modD (r_f (f_call (ok_lw_mix T) (hr.mono (by decide)) (by rfl) T.g_lw_mix T.f_lw_mix.kp T.b_lw_mix pass0 (a_cons (r_v 0) (a_cons (r_f f_int) a_nil)))) (r_f f_int)))) (v_r (r_f f_int)) (nomark _)) (s_one (s_ret (g_f (f_bin opr_add op_addD (r_v 1) (r_ix hu (r_f (f_str [97, 98, 99, 100, 101, 102, 103, 104, 105, 46])) (r_f (f_bin op_mod op_modD (r_f (f_call (ok_lw_mix T) (hr.mono (by decide)) (by rfl) T.g_lw_mix T.f_lw_mix.kp T.b_lw_mix pass0 (a_cons (r_v 0) (a_cons (r_f f_int) a_nil)))) (r_f f_int)))))))) s_nil)
      (s_one (s_ret (g_r (r_v 1))))))
theorem ok_lw_other (T : Tx K mg) : FnOk P w K mg base CX0 3 T.a_lw_other T.d_lw_other ["_law_cell_here"] (spD ⟨K, T.cl⟩ F_lw_other) := by
  refine ok_def (N := N_lw_other) (m := m_lw_other) (kp := [true]) T.f_lw_other sc_lw_other rfl (fun cdv A outer s H XE en ek hr => ?_)
  have hu := hr.units
  have nd := (sc_lw_other).nd
  exact (s_cons (s_set 1 nd (by rfl) (by first | exact Or.inl rfl | exact Or.inr rfl) (by rw [ek]; decide) (g_f (f_cold (f_call (ok_lw_name_text T) (hr.mono (by decide)) (by rfl) T.g_lw_name_text T.f_lw_name_text.kp T.b_lw_name_text pass0 (a_cons (r_v 0) a_nil)))))
      (s_one (s_ret (g_r (r_ix hu (r_f (f_lst (a_cons (r_f f_non) (a_cons (r_f f_int) (a_cons (r_f f_int) (a_cons (r_f f_bl) (a_cons (r_f f_bl) (a_cons (r_f (f_cold (f_lst a_nil))) (a_cons (r_f (f_cold (f_lst (a_cons (r_v 1) a_nil)))) (a_cons (r_f (f_tup (a_cons (r_v 1) a_nil))) (a_cons (r_f (f_cold f_dnew)) (a_cons (r_f (f_cold (f_disp (pd_cons (r_f (f_str [97])) (r_v 1) pd_nil) (by rfl) (by rfl) (by intro h; cases h) (by decide)))) a_nil)))))))))))) (r_f (f_bin op_mod op_modD (r_f (f_call (ok_lw_mix T) (hr.mono (by decide)) (by rfl) T.g_lw_mix T.f_lw_mix.kp T.b_lw_mix pass0 (a_cons (r_v 0) (a_cons (r_f f_int) a_nil)))) (r_f f_int))))))))
theorem ok_lw_due (T : Tx K mg) : FnOk P w K mg base CX0 2 T.a_lw_due T.d_lw_due ["_law_thing"] (spD ⟨K, T.cl⟩ F_lw_due) := by
  refine ok_def (N := N_lw_due) (m := m_lw_due) (kp := [true]) T.f_lw_due sc_lw_due rfl (fun cdv A outer s H XE en ek hr => ?_)
  have hu := hr.units
  have nd := (sc_lw_due).nd
  exact (s_cons (s_if (t_not (t_val (r_f (f_isi' (r_v 0) (pe_bltn (v := .ty "str") (u := .type "str") (by rfl) T.z_str (by decide +kernel) rfl) T.z_isinstance)))) (s_one (s_ret (g_f (f_lst (a_cons (r_f f_bl) (a_cons (r_f f_bl) (a_cons (r_f f_bl) a_nil))))))) s_nil)
      (s_cons (s_set 1 nd (by rfl) (by first | exact Or.inl rfl | exact Or.inr rfl) (by rw [ek]; decide) (g_f (f_and (r_f (v_cmp (op_eqD hu) op_eqqD flat_eq (v_r (r_f (f_blt cr_len op_lenD (by rfl) T.z_len (by decide +kernel) (a_cons (r_v 0) a_nil)))) (v_r (r_f f_int)) (nomark _))) (f_one (f_in hu (r_v 0) (r_f (f_call0 (ok_lw_signs T) (hr.mono (by decide)) (by rfl) T.g_lw_signs T.f_lw_signs.kp T.b_lw_signs pass0)))))))
      (s_cons (s_set 2 nd (by rfl) (by first | exact Or.inl rfl | exact Or.inr rfl) (by rw [ek]; decide) (g_f (f_and (r_f (f_ch opr_le op_cmpD opr_le op_cmpD (r_f f_int) (r_f (f_blt cr_len op_lenD (by rfl) T.z_len (by decide +kernel) (a_cons (r_v 0) a_nil))) (r_f f_int))) (f_one (f_call (ok_lw_small T) (hr.mono (by decide)) (by rfl) T.g_lw_small T.f_lw_small.kp T.b_lw_small pass0 (a_cons (r_v 0) a_nil))))))
      (s_one (s_ret (g_f (f_lst (a_cons (r_v 1) (a_cons (r_v 2) (a_cons (r_f (f_and (r_f (v_cmp (op_eqD hu) op_eqqD flat_eq (v_r (r_f (f_blt cr_len op_lenD (by rfl) T.z_len (by decide +kernel) (a_cons (r_v 0) a_nil)))) (v_r (r_f f_int)) (nomark _))) (f_one (f_in hu (r_v 0) (r_f (f_str [97, 98, 99, 100, 101, 102, 103, 104, 46])))))) a_nil))))))))))
theorem ok_lw_right (T : Tx K mg) : FnOk P w K mg base CX0 3 T.a_lw_right T.d_lw_right ["_law_thing"] (spD ⟨K, T.cl⟩ F_lw_right) := by
  refine ok_def (N := N_lw_right) (m := m_lw_right) (kp := [true]) T.f_lw_right sc_lw_right rfl (fun cdv A outer s H XE en ek hr => ?_)
  have hu := hr.units
  have nd := (sc_lw_right).nd
  exact (s_cons (s_set 1 nd (by rfl) (by first | exact Or.inl rfl | exact Or.inr rfl) (by rw [ek]; decide) (g_f (f_cold (f_lst (a_cons (r_f (f_cold (f_call (ok_is_sign T) (hr.mono (by decide)) (by rfl) T.g_is_sign T.f_is_sign.kp T.b_is_sign pass0 (a_cons (r_v 0) a_nil)))) (a_cons (r_f (f_cold (f_call (ok_is_name T) (hr.mono (by decide)) (by rfl) T.g_is_name T.f_is_name.kp T.b_is_name pass0 (a_cons (r_v 0) a_nil)))) (a_cons (r_f (f_cold (f_call (ok_is_colour T) (hr.mono (by decide)) (by rfl) T.g_is_colour T.f_is_colour.kp T.b_is_colour pass0 (a_cons (r_v 0) a_nil)))) a_nil)))))))
      (s_one (s_ret (g_f (f_and (r_f (v_cmp (op_eqD hu) op_eqqD flat_eq (v_r (r_f (f_lcV [("_law_one", 2)] (by rfl) rfl nd (i_seqV (r_v 1)) (blkOk_by (own := [("_law_one", 2)]) (N := N_lw_right) (sc := defScope s_lw_right) (by decide +kernel)) (fun _ _ _ _ _ => (g_name 2 nd (by rfl) (by first | exact Or.inl rfl | exact Or.inr rfl) (by rw [ek]; decide))) (fun _ _ _ _ _ => ts_nil) (fun _ _ _ _ _ => (r_f (f_cold (f_isi' (r_v 2) (pe_bltn (v := .ty "bool") (u := .type "bool") (by rfl) T.z_bool (by decide +kernel) rfl) T.z_isinstance)))) (by decide) (by rw [ek]; decide)))) (v_r (r_f (f_lst (a_cons (r_f f_bl) (a_cons (r_f f_bl) (a_cons (r_f f_bl) a_nil)))))) (nomark _))) (f_one (v_cmp (op_eqD hu) op_eqqD flat_eq (v_r (r_v 1)) (v_call (ok_lw_due T) (hr.mono (by decide)) (by rfl) T.g_lw_due T.f_lw_due.kp T.b_lw_due pass0 (a_cons (r_v 0) a_nil)) (nomark _))))))))
theorem ok_law (T : Tx K mg) : FnOk P w K mg base CX0 4 T.a_law T.d_law ["_law_script"] (spD ⟨K, T.cl⟩ F_law) := by
  refine ok_def (N := N_law) (m := m_law) (kp := [true]) T.f_law sc_law rfl (fun cdv A outer s H XE en ek hr => ?_)
  have hu := hr.units
  have nd := (sc_law).nd
  exact (s_cons (s_for [1, 2, 3] PassesOwn.never rfl (i_rng1 (by rfl) T.z_range (r_f (f_blt (call_max2 rfl) op_max2D (by rfl) T.z_max (by decide +kernel) (a_cons (r_f f_int) (a_cons (r_f (f_blt (call_min2 rfl) op_min2D (by rfl) T.z_min (by decide +kernel) (a_cons (r_f (f_blt cr_len op_lenD (by rfl) T.z_len (by decide +kernel) (a_cons (r_v 0) a_nil))) (a_cons (r_f f_int) a_nil)))) a_nil))))) (g_name 1 nd (by rfl) (by first | exact Or.inl rfl | exact Or.inr rfl) (by rw [ek]; decide)) (s_cons (s_set 2 nd (by rfl) (by first | exact Or.inl rfl | exact Or.inr rfl) (by rw [ek]; decide) (g_f (f_cold (f_call (ok_lw_cell T) (hr.mono (by decide)) (by rfl) T.g_lw_cell T.f_lw_cell.kp T.b_lw_cell pass0 (a_cons (r_v 0) (a_cons (r_v 1) a_nil))))))
      (s_one (s_for [3] PassesOwn.never rfl (i_seq (r_f (f_cold (f_lst (a_cons (r_f (f_cold (f_call (ok_lw_sign_text T) (hr.mono (by decide)) (by rfl) T.g_lw_sign_text T.f_lw_sign_text.kp T.b_lw_sign_text pass0 (a_cons (r_v 2) a_nil)))) (a_cons (r_f (f_cold (f_call (ok_lw_name_text T) (hr.mono (by decide)) (by rfl) T.g_lw_name_text T.f_lw_name_text.kp T.b_lw_name_text pass0 (a_cons (r_v 2) a_nil)))) (a_cons (r_f (f_cold (f_call (ok_lw_colour_text T) (hr.mono (by decide)) (by rfl) T.g_lw_colour_text T.f_lw_colour_text.kp T.b_lw_colour_text pass0 (a_cons (r_v 2) a_nil)))) (a_cons (r_f (f_cold (f_call (ok_lw_other T) (hr.mono (by decide)) (by rfl) T.g_lw_other T.f_lw_other.kp T.b_lw_other pass0 (a_cons (r_v 2) a_nil)))) a_nil)))))))) (g_name 3 nd (by rfl) (by first | exact Or.inl rfl | exact Or.inr rfl) (by rw [ek]; decide)) (s_one (s_if (t_not (t_val (r_f (f_call (ok_lw_right T) (hr.mono (by decide)) (by rfl) T.g_lw_right T.f_lw_right.kp T.b_lw_right pass0 (a_cons (r_v 3) a_nil))))) (s_one (s_ret (g_f f_bl))) s_nil))))))
      (s_cons (s_for [4, 5] PassesOwn.never rfl (i_seq (r_f (f_cold (f_call0 (ok_lw_signs T) (hr.mono (by decide)) (by rfl) T.g_lw_signs T.f_lw_signs.kp T.b_lw_signs pass0)))) (g_name 4 nd (by rfl) (by first | exact Or.inl rfl | exact Or.inr rfl) (by rw [ek]; decide)) (s_cons (s_set 5 nd (by rfl) (by first | exact Or.inl rfl | exact Or.inr rfl) (by rw [ek]; decide) (g_f (f_cold (f_call (ok_width_of T) (hr.mono (by decide)) (by rfl) T.g_width_of T.f_width_of.kp T.b_width_of pass0 (a_cons (r_v 4) a_nil)))))
      (s_cons (s_if (t_w (w_or (t_not (t_val (r_f (f_isi' (r_v 5) (pe_bltn (v := .ty "int") (u := .type "int") (by rfl) T.z_int (by decide +kernel) rfl) T.z_isinstance)))) (w_or (t_val (r_f (f_isi' (r_v 5) (pe_bltn (v := .ty "bool") (u := .type "bool") (by rfl) T.z_bool (by decide +kernel) rfl) T.z_isinstance))) (w_or1 (t_cmp opr_nis op_nisD (r_f (f_call (ok_is_sign T) (hr.mono (by decide)) (by rfl) T.g_is_sign T.f_is_sign.kp T.b_is_sign pass0 (a_cons (r_v 4) a_nil))) (r_f f_bl) (nomark _)))))) (s_one (s_ret (g_f f_bl))) s_nil)
      (s_one (s_if (tv_cmp (op_neD hu) op_neqD flat_ne (v_r (r_v 5)) (v_r (r_f (f_bin opr_add op_addD (r_f f_int) (r_f (f_bty call_int1 op_intD (by rfl) T.z_int (by decide +kernel) (a_cons (r_f (f_in hu (r_v 4) (r_f (f_str [65, 66, 67, 68, 69, 70, 71, 72, 73, 74, 75, 76, 77, 78, 79, 80, 81, 82, 83, 84, 85, 86, 87, 88, 89, 90])))) a_nil)))))) (nomark _)) (s_one (s_ret (g_f f_bl))) s_nil)))))
      (s_one (s_ret (g_f f_bl)))))
end
end LW
namespace LW
open PySem L2 PyProof.Rows LI
theorem all_mk (LT : ∀ ns : List Int, ns.length ≤ 63 → (∀ z ∈ ns, Builtin.Int.intBits z ≤ 1048576) → ∃ ds', F_law [.scr ns] = some (.bl true, ds')) {l : PySem.W.OpenLaw} {w : World} {K : PySem.W.Frag} {h : Heap} {mg : Str → Option Value} {fa : Addr} (X : K.In h) (G : h.Ns mainGlobals mg) (hfa : mg "law" = some (.ref fa))
     {p_is_sign : Addr} {od_is_sign an_is_sign : Option Addr} {sl_is_sign : Array (Option Value)} {oc_is_sign kV_is_sign dc_is_sign pm_is_sign cd_is_sign ct_is_sign : Value} {p_is_name : Addr} {od_is_name an_is_name : Option Addr} {sl_is_name : Array (Option Value)} {oc_is_name kV_is_name dc_is_name pm_is_name cd_is_name ct_is_name : Value} {p_is_colour : Addr} {od_is_colour an_is_colour : Option Addr} {sl_is_colour : Array (Option Value)} {oc_is_colour kV_is_colour dc_is_colour pm_is_colour cd_is_colour ct_is_colour : Value} {p_width_of : Addr} {od_width_of an_width_of : Option Addr} {sl_width_of : Array (Option Value)} {oc_width_of kV_width_of dc_width_of pm_width_of cd_width_of ct_width_of : Value} {p_lw_cell : Addr} {od_lw_cell an_lw_cell : Option Addr} {sl_lw_cell : Array (Option Value)} {oc_lw_cell kV_lw_cell dc_lw_cell pm_lw_cell cd_lw_cell ct_lw_cell : Value} {p_lw_mix : Addr} {od_lw_mix an_lw_mix : Option Addr} {sl_lw_mix : Array (Option Value)} {oc_lw_mix kV_lw_mix dc_lw_mix pm_lw_mix cd_lw_mix ct_lw_mix : Value} {p_lw_signs : Addr} {od_lw_signs an_lw_signs : Option Addr} {sl_lw_signs : Array (Option Value)} {oc_lw_signs kV_lw_signs dc_lw_signs pm_lw_signs cd_lw_signs ct_lw_signs : Value} {p_lw_small : Addr} {od_lw_small an_lw_small : Option Addr} {sl_lw_small : Array (Option Value)} {oc_lw_small kV_lw_small dc_lw_small pm_lw_small cd_lw_small ct_lw_small : Value} {p_lw_sign_text : Addr} {od_lw_sign_text an_lw_sign_text : Option Addr} {sl_lw_sign_text : Array (Option Value)} {oc_lw_sign_text kV_lw_sign_text dc_lw_sign_text pm_lw_sign_text cd_lw_sign_text ct_lw_sign_text : Value} {p_lw_name_text : Addr} {od_lw_name_text an_lw_name_text : Option Addr} {sl_lw_name_text : Array (Option Value)} {oc_lw_name_text kV_lw_name_text dc_lw_name_text pm_lw_name_text cd_lw_name_text ct_lw_name_text : Value} {p_lw_colour_text : Addr} {od_lw_colour_text an_lw_colour_text : Option Addr} {sl_lw_colour_text : Array (Option Value)} {oc_lw_colour_text kV_lw_colour_text dc_lw_colour_text pm_lw_colour_text cd_lw_colour_text ct_lw_colour_text : Value} {p_lw_other : Addr} {od_lw_other an_lw_other : Option Addr} {sl_lw_other : Array (Option Value)} {oc_lw_other kV_lw_other dc_lw_other pm_lw_other cd_lw_other ct_lw_other : Value} {p_lw_due : Addr} {od_lw_due an_lw_due : Option Addr} {sl_lw_due : Array (Option Value)} {oc_lw_due kV_lw_due dc_lw_due pm_lw_due cd_lw_due ct_lw_due : Value} {p_lw_right : Addr} {od_lw_right an_lw_right : Option Addr} {sl_lw_right : Array (Option Value)} {oc_lw_right kV_lw_right dc_lw_right pm_lw_right cd_lw_right ct_lw_right : Value} {p_law : Addr} {od_law an_law : Option Addr} {sl_law : Array (Option Value)} {oc_law kV_law dc_law pm_law cd_law ct_law : Value} {t_COLOURS : Tok} {t_FIRST : Tok} {t_GREAT : Tok} {t_LAST : Tok} {t_LETTERS : Tok} {t_LONGEST : Tok}
    (a1_is_sign : PySem.W.nsIn K mainGlobals "is_sign" = some (some (.ref p_is_sign)))
    (a2_is_sign : K.lookup p_is_sign = some ⟨oc_is_sign, od_is_sign, .func (PySem.W.fnOf "is_sign" "is_sign" (defArgs s_is_sign) (defBody s_is_sign) (defScope s_is_sign) .none kV_is_sign dc_is_sign pm_is_sign an_is_sign cd_is_sign ct_is_sign), sl_is_sign⟩)
    (a3_is_sign : PySem.W.codeIn K cd_is_sign "is_sign" = true)
    (a4_is_sign : PySem.W.keepIn K (.ref p_is_sign) = true)
    (a1_is_name : PySem.W.nsIn K mainGlobals "is_name" = some (some (.ref p_is_name)))
    (a2_is_name : K.lookup p_is_name = some ⟨oc_is_name, od_is_name, .func (PySem.W.fnOf "is_name" "is_name" (defArgs s_is_name) (defBody s_is_name) (defScope s_is_name) .none kV_is_name dc_is_name pm_is_name an_is_name cd_is_name ct_is_name), sl_is_name⟩)
    (a3_is_name : PySem.W.codeIn K cd_is_name "is_name" = true)
    (a4_is_name : PySem.W.keepIn K (.ref p_is_name) = true)
    (a1_is_colour : PySem.W.nsIn K mainGlobals "is_colour" = some (some (.ref p_is_colour)))
    (a2_is_colour : K.lookup p_is_colour = some ⟨oc_is_colour, od_is_colour, .func (PySem.W.fnOf "is_colour" "is_colour" (defArgs s_is_colour) (defBody s_is_colour) (defScope s_is_colour) .none kV_is_colour dc_is_colour pm_is_colour an_is_colour cd_is_colour ct_is_colour), sl_is_colour⟩)
    (a3_is_colour : PySem.W.codeIn K cd_is_colour "is_colour" = true)
    (a4_is_colour : PySem.W.keepIn K (.ref p_is_colour) = true)
    (a1_width_of : PySem.W.nsIn K mainGlobals "width_of" = some (some (.ref p_width_of)))
    (a2_width_of : K.lookup p_width_of = some ⟨oc_width_of, od_width_of, .func (PySem.W.fnOf "width_of" "width_of" (defArgs s_width_of) (defBody s_width_of) (defScope s_width_of) .none kV_width_of dc_width_of pm_width_of an_width_of cd_width_of ct_width_of), sl_width_of⟩)
    (a3_width_of : PySem.W.codeIn K cd_width_of "width_of" = true)
    (a4_width_of : PySem.W.keepIn K (.ref p_width_of) = true)
    (a1_lw_cell : PySem.W.nsIn K mainGlobals "_law_cell" = some (some (.ref p_lw_cell)))
    (a2_lw_cell : K.lookup p_lw_cell = some ⟨oc_lw_cell, od_lw_cell, .func (PySem.W.fnOf "_law_cell" "_law_cell" (defArgs s_lw_cell) (defBody s_lw_cell) (defScope s_lw_cell) .none kV_lw_cell dc_lw_cell pm_lw_cell an_lw_cell cd_lw_cell ct_lw_cell), sl_lw_cell⟩)
    (a3_lw_cell : PySem.W.codeIn K cd_lw_cell "_law_cell" = true)
    (a4_lw_cell : PySem.W.keepIn K (.ref p_lw_cell) = true)
    (a1_lw_mix : PySem.W.nsIn K mainGlobals "_law_mix" = some (some (.ref p_lw_mix)))
    (a2_lw_mix : K.lookup p_lw_mix = some ⟨oc_lw_mix, od_lw_mix, .func (PySem.W.fnOf "_law_mix" "_law_mix" (defArgs s_lw_mix) (defBody s_lw_mix) (defScope s_lw_mix) .none kV_lw_mix dc_lw_mix pm_lw_mix an_lw_mix cd_lw_mix ct_lw_mix), sl_lw_mix⟩)
    (a3_lw_mix : PySem.W.codeIn K cd_lw_mix "_law_mix" = true)
    (a4_lw_mix : PySem.W.keepIn K (.ref p_lw_mix) = true)
    (a1_lw_signs : PySem.W.nsIn K mainGlobals "_law_signs" = some (some (.ref p_lw_signs)))
    (a2_lw_signs : K.lookup p_lw_signs = some ⟨oc_lw_signs, od_lw_signs, .func (PySem.W.fnOf "_law_signs" "_law_signs" (defArgs s_lw_signs) (defBody s_lw_signs) (defScope s_lw_signs) .none kV_lw_signs dc_lw_signs pm_lw_signs an_lw_signs cd_lw_signs ct_lw_signs), sl_lw_signs⟩)
    (a3_lw_signs : PySem.W.codeIn K cd_lw_signs "_law_signs" = true)
    (a4_lw_signs : PySem.W.keepIn K (.ref p_lw_signs) = true)
    (a1_lw_small : PySem.W.nsIn K mainGlobals "_law_small" = some (some (.ref p_lw_small)))
    (a2_lw_small : K.lookup p_lw_small = some ⟨oc_lw_small, od_lw_small, .func (PySem.W.fnOf "_law_small" "_law_small" (defArgs s_lw_small) (defBody s_lw_small) (defScope s_lw_small) .none kV_lw_small dc_lw_small pm_lw_small an_lw_small cd_lw_small ct_lw_small), sl_lw_small⟩)
    (a3_lw_small : PySem.W.codeIn K cd_lw_small "_law_small" = true)
    (a4_lw_small : PySem.W.keepIn K (.ref p_lw_small) = true)
    (a1_lw_sign_text : PySem.W.nsIn K mainGlobals "_law_sign_text" = some (some (.ref p_lw_sign_text)))
    (a2_lw_sign_text : K.lookup p_lw_sign_text = some ⟨oc_lw_sign_text, od_lw_sign_text, .func (PySem.W.fnOf "_law_sign_text" "_law_sign_text" (defArgs s_lw_sign_text) (defBody s_lw_sign_text) (defScope s_lw_sign_text) .none kV_lw_sign_text dc_lw_sign_text pm_lw_sign_text an_lw_sign_text cd_lw_sign_text ct_lw_sign_text), sl_lw_sign_text⟩)
    (a3_lw_sign_text : PySem.W.codeIn K cd_lw_sign_text "_law_sign_text" = true)
    (a4_lw_sign_text : PySem.W.keepIn K (.ref p_lw_sign_text) = true)
    (a1_lw_name_text : PySem.W.nsIn K mainGlobals "_law_name_text" = some (some (.ref p_lw_name_text)))
    (a2_lw_name_text : K.lookup p_lw_name_text = some ⟨oc_lw_name_text, od_lw_name_text, .func (PySem.W.fnOf "_law_name_text" "_law_name_text" (defArgs s_lw_name_text) (defBody s_lw_name_text) (defScope s_lw_name_text) .none kV_lw_name_text dc_lw_name_text pm_lw_name_text an_lw_name_text cd_lw_name_text ct_lw_name_text), sl_lw_name_text⟩)
    (a3_lw_name_text : PySem.W.codeIn K cd_lw_name_text "_law_name_text" = true)
    (a4_lw_name_text : PySem.W.keepIn K (.ref p_lw_name_text) = true)
    (a1_lw_colour_text : PySem.W.nsIn K mainGlobals "_law_colour_text" = some (some (.ref p_lw_colour_text)))
    (a2_lw_colour_text : K.lookup p_lw_colour_text = some ⟨oc_lw_colour_text, od_lw_colour_text, .func (PySem.W.fnOf "_law_colour_text" "_law_colour_text" (defArgs s_lw_colour_text) (defBody s_lw_colour_text) (defScope s_lw_colour_text) .none kV_lw_colour_text dc_lw_colour_text pm_lw_colour_text an_lw_colour_text cd_lw_colour_text ct_lw_colour_text), sl_lw_colour_text⟩)
    (a3_lw_colour_text : PySem.W.codeIn K cd_lw_colour_text "_law_colour_text" = true)
    (a4_lw_colour_text : PySem.W.keepIn K (.ref p_lw_colour_text) = true)
    (a1_lw_other : PySem.W.nsIn K mainGlobals "_law_other" = some (some (.ref p_lw_other)))
    (a2_lw_other : K.lookup p_lw_other = some ⟨oc_lw_other, od_lw_other, .func (PySem.W.fnOf "_law_other" "_law_other" (defArgs s_lw_other) (defBody s_lw_other) (defScope s_lw_other) .none kV_lw_other dc_lw_other pm_lw_other an_lw_other cd_lw_other ct_lw_other), sl_lw_other⟩)
    (a3_lw_other : PySem.W.codeIn K cd_lw_other "_law_other" = true)
    (a4_lw_other : PySem.W.keepIn K (.ref p_lw_other) = true)
    (a1_lw_due : PySem.W.nsIn K mainGlobals "_law_due" = some (some (.ref p_lw_due)))
    (a2_lw_due : K.lookup p_lw_due = some ⟨oc_lw_due, od_lw_due, .func (PySem.W.fnOf "_law_due" "_law_due" (defArgs s_lw_due) (defBody s_lw_due) (defScope s_lw_due) .none kV_lw_due dc_lw_due pm_lw_due an_lw_due cd_lw_due ct_lw_due), sl_lw_due⟩)
    (a3_lw_due : PySem.W.codeIn K cd_lw_due "_law_due" = true)
    (a4_lw_due : PySem.W.keepIn K (.ref p_lw_due) = true)
    (a1_lw_right : PySem.W.nsIn K mainGlobals "_law_right" = some (some (.ref p_lw_right)))
    (a2_lw_right : K.lookup p_lw_right = some ⟨oc_lw_right, od_lw_right, .func (PySem.W.fnOf "_law_right" "_law_right" (defArgs s_lw_right) (defBody s_lw_right) (defScope s_lw_right) .none kV_lw_right dc_lw_right pm_lw_right an_lw_right cd_lw_right ct_lw_right), sl_lw_right⟩)
    (a3_lw_right : PySem.W.codeIn K cd_lw_right "_law_right" = true)
    (a4_lw_right : PySem.W.keepIn K (.ref p_lw_right) = true)
    (a1_law : PySem.W.nsIn K mainGlobals "law" = some (some (.ref p_law)))
    (a2_law : K.lookup p_law = some ⟨oc_law, od_law, .func (PySem.W.fnOf "law" "law" (defArgs s_law) (defBody s_law) (defScope s_law) .none kV_law dc_law pm_law an_law cd_law ct_law), sl_law⟩)
    (a3_law : PySem.W.codeIn K cd_law "law" = true)
    (a4_law : PySem.W.keepIn K (.ref p_law) = true)
    (z_bool : PySem.W.nsIn K mainGlobals "bool" = some none)
    (z_int : PySem.W.nsIn K mainGlobals "int" = some none)
    (z_isinstance : PySem.W.nsIn K mainGlobals "isinstance" = some none)
    (z_len : PySem.W.nsIn K mainGlobals "len" = some none)
    (z_max : PySem.W.nsIn K mainGlobals "max" = some none)
    (z_min : PySem.W.nsIn K mainGlobals "min" = some none)
    (z_range : PySem.W.nsIn K mainGlobals "range" = some none)
    (z_str : PySem.W.nsIn K mainGlobals "str" = some none)
    (k_COLOURS : PySem.W.nsIn K mainGlobals "COLOURS" = some (some (.str "abcdefgh." t_COLOURS)))
    (k_FIRST : PySem.W.nsIn K mainGlobals "FIRST" = some (some (.str " " t_FIRST)))
    (k_GREAT : PySem.W.nsIn K mainGlobals "GREAT" = some (some (.str "ABCDEFGHIJKLMNOPQRSTUVWXYZ" t_GREAT)))
    (k_LAST : PySem.W.nsIn K mainGlobals "LAST" = some (some (.str "}" t_LAST)))
    (k_LETTERS : PySem.W.nsIn K mainGlobals "LETTERS" = some (some (.str "abcdefghijklmnopqrstuvwxyz" t_LETTERS)))
    (k_LONGEST : PySem.W.nsIn K mainGlobals "LONGEST" = some (some (.int 8 t_LONGEST))) :
    ∃ fd : FuncData, (∀ (s : Shared) (v : Value), BindsTo s fd ⟨[v], []⟩ [("_law_script", v)]) ∧ ∀ base : Heap, K.In base → base.Ns mainGlobals mg → FnOk l.prog w K mg base CX0 4 fa fd ["_law_script"] (spLaw K) := by
  have e := hfa.symm.trans (PySem.W.mg_of X G a1_law)
  cases e
  have Fis_sign := fun_mk (st := s_is_sign) a2_is_sign a3_is_sign a4_is_sign
  have Fis_name := fun_mk (st := s_is_name) a2_is_name a3_is_name a4_is_name
  have Fis_colour := fun_mk (st := s_is_colour) a2_is_colour a3_is_colour a4_is_colour
  have Fwidth_of := fun_mk (st := s_width_of) a2_width_of a3_width_of a4_width_of
  have Flw_cell := fun_mk (st := s_lw_cell) a2_lw_cell a3_lw_cell a4_lw_cell
  have Flw_mix := fun_mk (st := s_lw_mix) a2_lw_mix a3_lw_mix a4_lw_mix
  have Flw_signs := fun_mk (st := s_lw_signs) a2_lw_signs a3_lw_signs a4_lw_signs
  have Flw_small := fun_mk (st := s_lw_small) a2_lw_small a3_lw_small a4_lw_small
  have Flw_sign_text := fun_mk (st := s_lw_sign_text) a2_lw_sign_text a3_lw_sign_text a4_lw_sign_text
  have Flw_name_text := fun_mk (st := s_lw_name_text) a2_lw_name_text a3_lw_name_text a4_lw_name_text
  have Flw_colour_text := fun_mk (st := s_lw_colour_text) a2_lw_colour_text a3_lw_colour_text a4_lw_colour_text
  have Flw_other := fun_mk (st := s_lw_other) a2_lw_other a3_lw_other a4_lw_other
  have Flw_due := fun_mk (st := s_lw_due) a2_lw_due a3_lw_due a4_lw_due
  have Flw_right := fun_mk (st := s_lw_right) a2_lw_right a3_lw_right a4_lw_right
  have Flaw := fun_mk (st := s_law) a2_law a3_law a4_law
  let T : Tx K mg := {
    cl := fun i =>  0,
    a_is_sign := p_is_sign,
    d_is_sign := _,
    f_is_sign := Fis_sign,
    b_is_sign := Fis_sign.binds (ps := ["thing"]) fun _ _ _ _ _ _ us hl => match us, hl with | [_], _ => rfl,
    g_is_sign := PySem.W.mg_of X G a1_is_sign,
    a_is_name := p_is_name,
    d_is_name := _,
    f_is_name := Fis_name,
    b_is_name := Fis_name.binds (ps := ["thing"]) fun _ _ _ _ _ _ us hl => match us, hl with | [_], _ => rfl,
    g_is_name := PySem.W.mg_of X G a1_is_name,
    a_is_colour := p_is_colour,
    d_is_colour := _,
    f_is_colour := Fis_colour,
    b_is_colour := Fis_colour.binds (ps := ["thing"]) fun _ _ _ _ _ _ us hl => match us, hl with | [_], _ => rfl,
    g_is_colour := PySem.W.mg_of X G a1_is_colour,
    a_width_of := p_width_of,
    d_width_of := _,
    f_width_of := Fwidth_of,
    b_width_of := Fwidth_of.binds (ps := ["sign"]) fun _ _ _ _ _ _ us hl => match us, hl with | [_], _ => rfl,
    g_width_of := PySem.W.mg_of X G a1_width_of,
    a_lw_cell := p_lw_cell,
    d_lw_cell := _,
    f_lw_cell := Flw_cell,
    b_lw_cell := Flw_cell.binds (ps := ["_law_script", "_law_k"]) fun _ _ _ _ _ _ us hl => match us, hl with | [_, _], _ => rfl,
    g_lw_cell := PySem.W.mg_of X G a1_lw_cell,
    a_lw_mix := p_lw_mix,
    d_lw_mix := _,
    f_lw_mix := Flw_mix,
    b_lw_mix := Flw_mix.binds (ps := ["_law_cell_here", "_law_k"]) fun _ _ _ _ _ _ us hl => match us, hl with | [_, _], _ => rfl,
    g_lw_mix := PySem.W.mg_of X G a1_lw_mix,
    a_lw_signs := p_lw_signs,
    d_lw_signs := _,
    f_lw_signs := Flw_signs,
    b_lw_signs := Flw_signs.binds (ps := []) fun _ _ _ _ _ _ us hl => match us, hl with | [], _ => rfl,
    g_lw_signs := PySem.W.mg_of X G a1_lw_signs,
    a_lw_small := p_lw_small,
    d_lw_small := _,
    f_lw_small := Flw_small,
    b_lw_small := Flw_small.binds (ps := ["_law_text"]) fun _ _ _ _ _ _ us hl => match us, hl with | [_], _ => rfl,
    g_lw_small := PySem.W.mg_of X G a1_lw_small,
    a_lw_sign_text := p_lw_sign_text,
    d_lw_sign_text := _,
    f_lw_sign_text := Flw_sign_text,
    b_lw_sign_text := Flw_sign_text.binds (ps := ["_law_cell_here"]) fun _ _ _ _ _ _ us hl => match us, hl with | [_], _ => rfl,
    g_lw_sign_text := PySem.W.mg_of X G a1_lw_sign_text,
    a_lw_name_text := p_lw_name_text,
    d_lw_name_text := _,
    f_lw_name_text := Flw_name_text,
    b_lw_name_text := Flw_name_text.binds (ps := ["_law_cell_here"]) fun _ _ _ _ _ _ us hl => match us, hl with | [_], _ => rfl,
    g_lw_name_text := PySem.W.mg_of X G a1_lw_name_text,
    a_lw_colour_text := p_lw_colour_text,
    d_lw_colour_text := _,
    f_lw_colour_text := Flw_colour_text,
    b_lw_colour_text := Flw_colour_text.binds (ps := ["_law_cell_here"]) fun _ _ _ _ _ _ us hl => match us, hl with | [_], _ => rfl,
    g_lw_colour_text := PySem.W.mg_of X G a1_lw_colour_text,
    a_lw_other := p_lw_other,
    d_lw_other := _,
    f_lw_other := Flw_other,
    b_lw_other := Flw_other.binds (ps := ["_law_cell_here"]) fun _ _ _ _ _ _ us hl => match us, hl with | [_], _ => rfl,
    g_lw_other := PySem.W.mg_of X G a1_lw_other,
    a_lw_due := p_lw_due,
    d_lw_due := _,
    f_lw_due := Flw_due,
    b_lw_due := Flw_due.binds (ps := ["_law_thing"]) fun _ _ _ _ _ _ us hl => match us, hl with | [_], _ => rfl,
    g_lw_due := PySem.W.mg_of X G a1_lw_due,
    a_lw_right := p_lw_right,
    d_lw_right := _,
    f_lw_right := Flw_right,
    b_lw_right := Flw_right.binds (ps := ["_law_thing"]) fun _ _ _ _ _ _ us hl => match us, hl with | [_], _ => rfl,
    g_lw_right := PySem.W.mg_of X G a1_lw_right,
    a_law := fa,
    d_law := _,
    f_law := Flaw,
    b_law := Flaw.binds (ps := ["_law_script"]) fun _ _ _ _ _ _ us hl => match us, hl with | [_], _ => rfl,
    g_law := PySem.W.mg_of X G a1_law,
    z_bool := PySem.W.mg_none_of X G z_bool,
    z_int := PySem.W.mg_none_of X G z_int,
    z_isinstance := PySem.W.mg_none_of X G z_isinstance,
    z_len := PySem.W.mg_none_of X G z_len,
    z_max := PySem.W.mg_none_of X G z_max,
    z_min := PySem.W.mg_none_of X G z_min,
    z_range := PySem.W.mg_none_of X G z_range,
    z_str := PySem.W.mg_none_of X G z_str,
    k_COLOURS := ⟨_, PySem.W.mg_of X G k_COLOURS, _, by rfl⟩,
    k_FIRST := ⟨_, PySem.W.mg_of X G k_FIRST, _, by rfl⟩,
    k_GREAT := ⟨_, PySem.W.mg_of X G k_GREAT, _, by rfl⟩,
    k_LAST := ⟨_, PySem.W.mg_of X G k_LAST, _, by rfl⟩,
    k_LETTERS := ⟨_, PySem.W.mg_of X G k_LETTERS, _, by rfl⟩,
    k_LONGEST := ⟨_, PySem.W.mg_of X G k_LONGEST, _, by rfl⟩ }
  exact ⟨PySem.W.fnOf "law" "law" (defArgs s_law) (defBody s_law) (defScope s_law) .none kV_law dc_law pm_law an_law cd_law ct_law, fun s v => .of_eq rfl, fun base _ _ => law_ok (ok_law T) LT⟩
end LW
open PySem PySem.W PyProof.Rows
theorem PySem.Challenge.cw_outweave_k11_signs_and_names_holds : PySem.Challenge.rw_outweave_k11_signs_and_names.Holds := by
  w_on; o_law; k_head; (case hw => w_witness2)
  k_fill
  refine L2.walk_ofB (l := PySem.Challenge.rw_outweave_k11_signs_and_names) (n := 63) (k := 4) (x := "_law_script") (CX := fun _ => L2.CX0) (sp := fun w => LI.spLaw _) rfl (by decide) rfl ⟨rfl, by decide, by decide⟩ (fun w h Y => PySem.W.kIn_of Y) ?F (fun _ _ a ns hl hb _ hS => ⟨a, ns, rfl, hS, hl, hb, fun _ => rfl⟩) (fun _ _ _ _ _ h => h)
  case F =>
    intro w mg fa h KX G hmg
    refine' LW.all_mk LW.law_true KX G hmg ?a1_is_sign ?a2_is_sign ?a3_is_sign ?a4_is_sign ?a1_is_name ?a2_is_name ?a3_is_name ?a4_is_name ?a1_is_colour ?a2_is_colour ?a3_is_colour ?a4_is_colour ?a1_width_of ?a2_width_of ?a3_width_of ?a4_width_of ?a1_lw_cell ?a2_lw_cell ?a3_lw_cell ?a4_lw_cell ?a1_lw_mix ?a2_lw_mix ?a3_lw_mix ?a4_lw_mix ?a1_lw_signs ?a2_lw_signs ?a3_lw_signs ?a4_lw_signs ?a1_lw_small ?a2_lw_small ?a3_lw_small ?a4_lw_small ?a1_lw_sign_text ?a2_lw_sign_text ?a3_lw_sign_text ?a4_lw_sign_text ?a1_lw_name_text ?a2_lw_name_text ?a3_lw_name_text ?a4_lw_name_text ?a1_lw_colour_text ?a2_lw_colour_text ?a3_lw_colour_text ?a4_lw_colour_text ?a1_lw_other ?a2_lw_other ?a3_lw_other ?a4_lw_other ?a1_lw_due ?a2_lw_due ?a3_lw_due ?a4_lw_due ?a1_lw_right ?a2_lw_right ?a3_lw_right ?a4_lw_right ?a1_law ?a2_law ?a3_law ?a4_law ?z_bool ?z_int ?z_isinstance ?z_len ?z_max ?z_min ?z_range ?z_str ?k_COLOURS ?k_FIRST ?k_GREAT ?k_LAST ?k_LETTERS ?k_LONGEST
    (case a1_is_sign => k_is); (case a2_is_sign => k_is); (case a3_is_sign => k_is); (case a4_is_sign => k_is); (case a1_is_name => k_is); (case a2_is_name => k_is); (case a3_is_name => k_is); (case a4_is_name => k_is); (case a1_is_colour => k_is); (case a2_is_colour => k_is); (case a3_is_colour => k_is); (case a4_is_colour => k_is); (case a1_width_of => k_is); (case a2_width_of => k_is); (case a3_width_of => k_is); (case a4_width_of => k_is); (case a1_lw_cell => k_is); (case a2_lw_cell => k_is); (case a3_lw_cell => k_is); (case a4_lw_cell => k_is); (case a1_lw_mix => k_is); (case a2_lw_mix => k_is); (case a3_lw_mix => k_is); (case a4_lw_mix => k_is); (case a1_lw_signs => k_is); (case a2_lw_signs => k_is); (case a3_lw_signs => k_is); (case a4_lw_signs => k_is); (case a1_lw_small => k_is); (case a2_lw_small => k_is); (case a3_lw_small => k_is); (case a4_lw_small => k_is); (case a1_lw_sign_text => k_is); (case a2_lw_sign_text => k_is); (case a3_lw_sign_text => k_is); (case a4_lw_sign_text => k_is); (case a1_lw_name_text => k_is); (case a2_lw_name_text => k_is); (case a3_lw_name_text => k_is); (case a4_lw_name_text => k_is); (case a1_lw_colour_text => k_is); (case a2_lw_colour_text => k_is); (case a3_lw_colour_text => k_is); (case a4_lw_colour_text => k_is); (case a1_lw_other => k_is); (case a2_lw_other => k_is); (case a3_lw_other => k_is); (case a4_lw_other => k_is); (case a1_lw_due => k_is); (case a2_lw_due => k_is); (case a3_lw_due => k_is); (case a4_lw_due => k_is); (case a1_lw_right => k_is); (case a2_lw_right => k_is); (case a3_lw_right => k_is); (case a4_lw_right => k_is); (case a1_law => k_is); (case a2_law => k_is); (case a3_law => k_is); (case a4_law => k_is); (case z_bool => k_is); (case z_int => k_is); (case z_isinstance => k_is); (case z_len => k_is); (case z_max => k_is); (case z_min => k_is); (case z_range => k_is); (case z_str => k_is); (case k_COLOURS => k_is); (case k_FIRST => k_is); (case k_GREAT => k_is); (case k_LAST => k_is); (case k_LETTERS => k_is); (case k_LONGEST => k_is)
