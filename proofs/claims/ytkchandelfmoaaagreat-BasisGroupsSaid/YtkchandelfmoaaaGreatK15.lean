/-
  Contracts: BasisGroups.
-/
import Derived.Test.YtkchandelfmoaaaGreatK14
namespace Go.Fx
open Go Go.Proofs
set_option maxRecDepth 100000
set_option linter.unusedVariables false
set_option linter.unusedSimpArgs false
set_option linter.unusedSectionVars false
noncomputable def C_BasisGroups : Contract := { args := [.agg .chg, .list .op], res := [.bool], pre := fun _ => True, F := fun x => ((true : Bool), ()) }
def T_BasisGroups (c : Chg) (list : List Op3) : Prop :=
  (True ∧
∀ z2 : Bool,
(z2 = true →
(((!z2) = true →
 (false, ()) = (true, ())) ∧
((!z2) = false →
((leP 0 0 ∧
 (leP 0 (zmin (list.length : Int) 200) ∧
 leP (zmin (list.length : Int) 200) (list.length : Int))) ∧
(True ∧
∀ z5 : List Op3,
(z5 = dclL (lsub list 0 (zmin (list.length : Int) 200)) →
∀ z7 : Int,
(z7 = dclE (lsub list 0 (zmin (list.length : Int) 200)) →
(((!(decide (z7 = 0))) = true →
 (shtO (lsub list 0 (zmin (list.length : Int) 200)) ∧
 ∀ z10 : List Op3,
 (z10 = sprO (lsub list 0 (zmin (list.length : Int) 200)) →
 (True ∧
 ((leP 0 0 ∧
  (leP 0 (zmin (list.length : Int) 200) ∧
  leP (zmin (list.length : Int) 200) (z10.length : Int))) ∧
 (True ∧
 (True ∧
 ∀ z12 : List Op3,
 (z12 = bgL c (lsub list 0 (zmin (list.length : Int) 200)) →
 ∀ z14 : Int,
 (z14 = bgE c (lsub list 0 (zmin (list.length : Int) 200)) →
 (True ∧
 ∀ z16 : Bool,
 (z16 = smO (bgL c (lsub z10 0 (zmin (list.length : Int) 200))) z12 →
 (((!z16) = true →
  (false, ()) = (true, ())) ∧
 ((!z16) = false →
 (((!(decide (bgE c (lsub z10 0 (zmin (list.length : Int) 200)) = z14))) = true →
  (false, ()) = (true, ())) ∧
 ((!(decide (bgE c (lsub z10 0 (zmin (list.length : Int) 200)) = z14))) = false →
 ((leP 0 0 ∧
  (leP 0 (zmin (list.length : Int) 200) ∧
  leP (zmin (list.length : Int) 200) (z10.length : Int))) ∧
 (True ∧
 ∀ z20 : Bool,
 (z20 = smO (lsub z10 0 (zmin (list.length : Int) 200)) (lsub list 0 (zmin (list.length : Int) 200)) →
 ((z20 = true →
  (inB z10 (zmin (list.length : Int) 200) ∧
  (((decide ((((z10.getD (zmin (list.length : Int) 200).toNat zerO)).T).x = 77)) = true →
   (inB z10 ((zmin (list.length : Int) 200 + 1)) ∧
   (((!(decide ((((z10.getD ((zmin (list.length : Int) 200 + 1)).toNat zerO)).T).x = 78))) = true →
    (false, ()) = (true, ())) ∧
   ((!(decide ((((z10.getD ((zmin (list.length : Int) 200 + 1)).toNat zerO)).T).x = 78))) = false →
   (bwI (bgL c (lsub z10 0 (zmin (list.length : Int) 200))) 0 ∧
   ∀ z25 : List Op3,
   ∀ z26 : Int,
   ((decide ((-9223372036854775808) ≤ z26)) = true →
   ((decide (z26 ≤ 9223372036854775807)) = true →
   (bwI z25 z26 →
   (eqP (z25.length : Int) (((bgL c (lsub z10 0 (zmin (list.length : Int) 200))).length : Int)) →
   (((decide (z26 < ((bgL c (lsub z10 0 (zmin (list.length : Int) 200))).length : Int))) = true →
    (inB z25 z26 ∧
    (bwI (lset z25 z26 (zerO)) ((w64 (z26 + 1))) ∧
    ((decide (0 ≤ opMu (lset z25 z26 (zerO)) ((w64 (z26 + 1))))) = true ∧
    (decide (opMu (lset z25 z26 (zerO)) ((w64 (z26 + 1))) < opMu z25 z26)) = true)))) ∧
   ((decide (z26 < ((bgL c (lsub z10 0 (zmin (list.length : Int) 200))).length : Int))) = false →
   (lfit 96 (lapp z25 ([zerO, zerO])) ∧
   (True ∧
   ((leP 0 0 ∧
    (leP 0 (zmin (list.length : Int) 200) ∧
    leP (zmin (list.length : Int) 200) (z10.length : Int))) ∧
   (True ∧
   (((decide (((lapp z25 ([zerO, zerO])).length : Int) < 2)) = true →
    (false, ()) = (true, ())) ∧
   ((decide (((lapp z25 ([zerO, zerO])).length : Int) < 2)) = false →
   (True ∧
   ∀ z33 : Bool,
   (z33 = smO (bgL c (lsub z10 0 (zmin (list.length : Int) 200))) z12 →
   (((!z33) = true →
    (false, ()) = (true, ())) ∧
   ((!z33) = false →
   ((leP 0 0 ∧
    (leP 0 (zmin (list.length : Int) 200) ∧
    leP (zmin (list.length : Int) 200) (z10.length : Int))) ∧
   (True ∧
   ∀ z36 : Bool,
   (z36 = smO (lsub z10 0 (zmin (list.length : Int) 200)) (lsub list 0 (zmin (list.length : Int) 200)) →
   ((z36 = true →
    (inB z10 (zmin (list.length : Int) 200) ∧
    (((decide ((((z10.getD (zmin (list.length : Int) 200).toNat zerO)).T).x = 77)) = true →
     (inB z10 ((zmin (list.length : Int) 200 + 1)) ∧
     (((!(decide ((((z10.getD ((zmin (list.length : Int) 200 + 1)).toNat zerO)).T).x = 78))) = true →
      (false, ()) = (true, ())) ∧
     ((!(decide ((((z10.getD ((zmin (list.length : Int) 200 + 1)).toNat zerO)).T).x = 78))) = false →
     (shtO (lsub list 0 (zmin (list.length : Int) 200)) ∧
     ∀ z41 : List Op3,
     (z41 = sprO (lsub list 0 (zmin (list.length : Int) 200)) →
     (True ∧
     ((leP 0 0 ∧
      (leP 0 (zmin (list.length : Int) 200) ∧
      leP (zmin (list.length : Int) 200) (z41.length : Int))) ∧
     (True ∧
     (True ∧
     ∀ z43 : List Op3,
     (z43 = bgL c (lsub list 0 (zmin (list.length : Int) 200)) →
     ∀ z45 : Int,
     (z45 = bgE c (lsub list 0 (zmin (list.length : Int) 200)) →
     (True ∧
     ∀ z47 : Bool,
     (z47 = smO (bgL c (lsub z41 0 (zmin (list.length : Int) 200))) z43 →
     (((!z47) = true →
      (false, ()) = (true, ())) ∧
     ((!z47) = false →
     (((!(decide (bgE c (lsub z41 0 (zmin (list.length : Int) 200)) = z45))) = true →
      (false, ()) = (true, ())) ∧
     ((!(decide (bgE c (lsub z41 0 (zmin (list.length : Int) 200)) = z45))) = false →
     ((leP 0 0 ∧
      (leP 0 (zmin (list.length : Int) 200) ∧
      leP (zmin (list.length : Int) 200) (z41.length : Int))) ∧
     (True ∧
     ∀ z51 : Bool,
     (z51 = smO (lsub z41 0 (zmin (list.length : Int) 200)) (lsub list 0 (zmin (list.length : Int) 200)) →
     ((z51 = true →
      (inB z41 (zmin (list.length : Int) 200) ∧
      (((decide ((((z41.getD (zmin (list.length : Int) 200).toNat zerO)).T).x = 77)) = true →
       (inB z41 ((zmin (list.length : Int) 200 + 1)) ∧
       (((!(decide ((((z41.getD ((zmin (list.length : Int) 200 + 1)).toNat zerO)).T).x = 78))) = true →
        (false, ()) = (true, ())) ∧
       ((!(decide ((((z41.getD ((zmin (list.length : Int) 200 + 1)).toNat zerO)).T).x = 78))) = false →
       (bwI (bgL c (lsub z41 0 (zmin (list.length : Int) 200))) 0 ∧
       ∀ z56 : List Op3,
       ∀ z57 : Int,
       ((decide ((-9223372036854775808) ≤ z57)) = true →
       ((decide (z57 ≤ 9223372036854775807)) = true →
       (bwI z56 z57 →
       (eqP (z56.length : Int) (((bgL c (lsub z41 0 (zmin (list.length : Int) 200))).length : Int)) →
       (((decide (z57 < ((bgL c (lsub z41 0 (zmin (list.length : Int) 200))).length : Int))) = true →
        (inB z56 z57 ∧
        (bwI (lset z56 z57 (zerO)) ((w64 (z57 + 1))) ∧
        ((decide (0 ≤ opMu (lset z56 z57 (zerO)) ((w64 (z57 + 1))))) = true ∧
        (decide (opMu (lset z56 z57 (zerO)) ((w64 (z57 + 1))) < opMu z56 z57)) = true)))) ∧
       ((decide (z57 < ((bgL c (lsub z41 0 (zmin (list.length : Int) 200))).length : Int))) = false →
       (lfit 96 (lapp z56 ([zerO, zerO])) ∧
       (True ∧
       ((leP 0 0 ∧
        (leP 0 (zmin (list.length : Int) 200) ∧
        leP (zmin (list.length : Int) 200) (z41.length : Int))) ∧
       (True ∧
       (((decide (((lapp z56 ([zerO, zerO])).length : Int) < 2)) = true →
        (false, ()) = (true, ())) ∧
       ((decide (((lapp z56 ([zerO, zerO])).length : Int) < 2)) = false →
       (True ∧
       ∀ z64 : Bool,
       (z64 = smO (bgL c (lsub z41 0 (zmin (list.length : Int) 200))) z43 →
       (((!z64) = true →
        (false, ()) = (true, ())) ∧
       ((!z64) = false →
       ((leP 0 0 ∧
        (leP 0 (zmin (list.length : Int) 200) ∧
        leP (zmin (list.length : Int) 200) (z41.length : Int))) ∧
       (True ∧
       ∀ z67 : Bool,
       (z67 = smO (lsub z41 0 (zmin (list.length : Int) 200)) (lsub list 0 (zmin (list.length : Int) 200)) →
       ((z67 = true →
        (inB z41 (zmin (list.length : Int) 200) ∧
        (((decide ((((z41.getD (zmin (list.length : Int) 200).toNat zerO)).T).x = 77)) = true →
         (inB z41 ((zmin (list.length : Int) 200 + 1)) ∧
         (((!(decide ((((z41.getD ((zmin (list.length : Int) 200 + 1)).toNat zerO)).T).x = 78))) = true →
          (false, ()) = (true, ())) ∧
         ((!(decide ((((z41.getD ((zmin (list.length : Int) 200 + 1)).toNat zerO)).T).x = 78))) = false →
         (true, ()) = (true, ()))))) ∧
        ((decide ((((z41.getD (zmin (list.length : Int) 200).toNat zerO)).T).x = 77)) = false →
        (false, ()) = (true, ()))))) ∧
       (z67 = false →
       (false, ()) = (true, ()))))))))))))))))))))))))))) ∧
      ((decide ((((z41.getD (zmin (list.length : Int) 200).toNat zerO)).T).x = 77)) = false →
      (false, ()) = (true, ()))))) ∧
     (z51 = false →
     (false, ()) = (true, ())))))))))))))))))))))))) ∧
    ((decide ((((z10.getD (zmin (list.length : Int) 200).toNat zerO)).T).x = 77)) = false →
    (false, ()) = (true, ()))))) ∧
   (z36 = false →
   (false, ()) = (true, ()))))))))))))))))))))))))))) ∧
  ((decide ((((z10.getD (zmin (list.length : Int) 200).toNat zerO)).T).x = 77)) = false →
  (false, ()) = (true, ()))))) ∧
 (z20 = false →
 (false, ()) = (true, ()))))))))))))))))))))) ∧
((!(decide (z7 = 0))) = false →
(shtO z5 ∧
∀ z10 : List Op3,
(z10 = sprO z5 →
(True ∧
((leP 0 0 ∧
 (leP 0 (z5.length : Int) ∧
 leP (z5.length : Int) (z10.length : Int))) ∧
(True ∧
(True ∧
∀ z12 : List Op3,
(z12 = bgL c z5 →
∀ z14 : Int,
(z14 = bgE c z5 →
(True ∧
∀ z16 : Bool,
(z16 = smO (bgL c (lsub z10 0 (z5.length : Int))) z12 →
(((!z16) = true →
 (false, ()) = (true, ())) ∧
((!z16) = false →
(((!(decide (bgE c (lsub z10 0 (z5.length : Int)) = z14))) = true →
 (false, ()) = (true, ())) ∧
((!(decide (bgE c (lsub z10 0 (z5.length : Int)) = z14))) = false →
((leP 0 0 ∧
 (leP 0 (z5.length : Int) ∧
 leP (z5.length : Int) (z10.length : Int))) ∧
(True ∧
∀ z20 : Bool,
(z20 = smO (lsub z10 0 (z5.length : Int)) z5 →
((z20 = true →
 (inB z10 (z5.length : Int) ∧
 (((decide ((((z10.getD ((z5.length : Int)).toNat zerO)).T).x = 77)) = true →
  (inB z10 (((z5.length : Int) + 1)) ∧
  (((!(decide ((((z10.getD (((z5.length : Int) + 1)).toNat zerO)).T).x = 78))) = true →
   (false, ()) = (true, ())) ∧
  ((!(decide ((((z10.getD (((z5.length : Int) + 1)).toNat zerO)).T).x = 78))) = false →
  (bwI (bgL c (lsub z10 0 (z5.length : Int))) 0 ∧
  ∀ z25 : List Op3,
  ∀ z26 : Int,
  ((decide ((-9223372036854775808) ≤ z26)) = true →
  ((decide (z26 ≤ 9223372036854775807)) = true →
  (bwI z25 z26 →
  (eqP (z25.length : Int) (((bgL c (lsub z10 0 (z5.length : Int))).length : Int)) →
  (((decide (z26 < ((bgL c (lsub z10 0 (z5.length : Int))).length : Int))) = true →
   (inB z25 z26 ∧
   (bwI (lset z25 z26 (zerO)) ((w64 (z26 + 1))) ∧
   ((decide (0 ≤ opMu (lset z25 z26 (zerO)) ((w64 (z26 + 1))))) = true ∧
   (decide (opMu (lset z25 z26 (zerO)) ((w64 (z26 + 1))) < opMu z25 z26)) = true)))) ∧
  ((decide (z26 < ((bgL c (lsub z10 0 (z5.length : Int))).length : Int))) = false →
  (lfit 96 (lapp z25 ([zerO, zerO])) ∧
  (True ∧
  ((leP 0 0 ∧
   (leP 0 (z5.length : Int) ∧
   leP (z5.length : Int) (z10.length : Int))) ∧
  (True ∧
  (((decide (((lapp z25 ([zerO, zerO])).length : Int) < 2)) = true →
   (false, ()) = (true, ())) ∧
  ((decide (((lapp z25 ([zerO, zerO])).length : Int) < 2)) = false →
  (True ∧
  ∀ z33 : Bool,
  (z33 = smO (bgL c (lsub z10 0 (z5.length : Int))) z12 →
  (((!z33) = true →
   (false, ()) = (true, ())) ∧
  ((!z33) = false →
  ((leP 0 0 ∧
   (leP 0 (z5.length : Int) ∧
   leP (z5.length : Int) (z10.length : Int))) ∧
  (True ∧
  ∀ z36 : Bool,
  (z36 = smO (lsub z10 0 (z5.length : Int)) z5 →
  ((z36 = true →
   (inB z10 (z5.length : Int) ∧
   (((decide ((((z10.getD ((z5.length : Int)).toNat zerO)).T).x = 77)) = true →
    (inB z10 (((z5.length : Int) + 1)) ∧
    (((!(decide ((((z10.getD (((z5.length : Int) + 1)).toNat zerO)).T).x = 78))) = true →
     (false, ()) = (true, ())) ∧
    ((!(decide ((((z10.getD (((z5.length : Int) + 1)).toNat zerO)).T).x = 78))) = false →
    (shtO (lsub list 0 (zmin (list.length : Int) 200)) ∧
    ∀ z41 : List Op3,
    (z41 = sprO (lsub list 0 (zmin (list.length : Int) 200)) →
    (True ∧
    ((leP 0 0 ∧
     (leP 0 (zmin (list.length : Int) 200) ∧
     leP (zmin (list.length : Int) 200) (z41.length : Int))) ∧
    (True ∧
    (True ∧
    ∀ z43 : List Op3,
    (z43 = bgL c (lsub list 0 (zmin (list.length : Int) 200)) →
    ∀ z45 : Int,
    (z45 = bgE c (lsub list 0 (zmin (list.length : Int) 200)) →
    (True ∧
    ∀ z47 : Bool,
    (z47 = smO (bgL c (lsub z41 0 (zmin (list.length : Int) 200))) z43 →
    (((!z47) = true →
     (false, ()) = (true, ())) ∧
    ((!z47) = false →
    (((!(decide (bgE c (lsub z41 0 (zmin (list.length : Int) 200)) = z45))) = true →
     (false, ()) = (true, ())) ∧
    ((!(decide (bgE c (lsub z41 0 (zmin (list.length : Int) 200)) = z45))) = false →
    ((leP 0 0 ∧
     (leP 0 (zmin (list.length : Int) 200) ∧
     leP (zmin (list.length : Int) 200) (z41.length : Int))) ∧
    (True ∧
    ∀ z51 : Bool,
    (z51 = smO (lsub z41 0 (zmin (list.length : Int) 200)) (lsub list 0 (zmin (list.length : Int) 200)) →
    ((z51 = true →
     (inB z41 (zmin (list.length : Int) 200) ∧
     (((decide ((((z41.getD (zmin (list.length : Int) 200).toNat zerO)).T).x = 77)) = true →
      (inB z41 ((zmin (list.length : Int) 200 + 1)) ∧
      (((!(decide ((((z41.getD ((zmin (list.length : Int) 200 + 1)).toNat zerO)).T).x = 78))) = true →
       (false, ()) = (true, ())) ∧
      ((!(decide ((((z41.getD ((zmin (list.length : Int) 200 + 1)).toNat zerO)).T).x = 78))) = false →
      (bwI (bgL c (lsub z41 0 (zmin (list.length : Int) 200))) 0 ∧
      ∀ z56 : List Op3,
      ∀ z57 : Int,
      ((decide ((-9223372036854775808) ≤ z57)) = true →
      ((decide (z57 ≤ 9223372036854775807)) = true →
      (bwI z56 z57 →
      (eqP (z56.length : Int) (((bgL c (lsub z41 0 (zmin (list.length : Int) 200))).length : Int)) →
      (((decide (z57 < ((bgL c (lsub z41 0 (zmin (list.length : Int) 200))).length : Int))) = true →
       (inB z56 z57 ∧
       (bwI (lset z56 z57 (zerO)) ((w64 (z57 + 1))) ∧
       ((decide (0 ≤ opMu (lset z56 z57 (zerO)) ((w64 (z57 + 1))))) = true ∧
       (decide (opMu (lset z56 z57 (zerO)) ((w64 (z57 + 1))) < opMu z56 z57)) = true)))) ∧
      ((decide (z57 < ((bgL c (lsub z41 0 (zmin (list.length : Int) 200))).length : Int))) = false →
      (lfit 96 (lapp z56 ([zerO, zerO])) ∧
      (True ∧
      ((leP 0 0 ∧
       (leP 0 (zmin (list.length : Int) 200) ∧
       leP (zmin (list.length : Int) 200) (z41.length : Int))) ∧
      (True ∧
      (((decide (((lapp z56 ([zerO, zerO])).length : Int) < 2)) = true →
       (false, ()) = (true, ())) ∧
      ((decide (((lapp z56 ([zerO, zerO])).length : Int) < 2)) = false →
      (True ∧
      ∀ z64 : Bool,
      (z64 = smO (bgL c (lsub z41 0 (zmin (list.length : Int) 200))) z43 →
      (((!z64) = true →
       (false, ()) = (true, ())) ∧
      ((!z64) = false →
      ((leP 0 0 ∧
       (leP 0 (zmin (list.length : Int) 200) ∧
       leP (zmin (list.length : Int) 200) (z41.length : Int))) ∧
      (True ∧
      ∀ z67 : Bool,
      (z67 = smO (lsub z41 0 (zmin (list.length : Int) 200)) (lsub list 0 (zmin (list.length : Int) 200)) →
      ((z67 = true →
       (inB z41 (zmin (list.length : Int) 200) ∧
       (((decide ((((z41.getD (zmin (list.length : Int) 200).toNat zerO)).T).x = 77)) = true →
        (inB z41 ((zmin (list.length : Int) 200 + 1)) ∧
        (((!(decide ((((z41.getD ((zmin (list.length : Int) 200 + 1)).toNat zerO)).T).x = 78))) = true →
         (false, ()) = (true, ())) ∧
        ((!(decide ((((z41.getD ((zmin (list.length : Int) 200 + 1)).toNat zerO)).T).x = 78))) = false →
        (true, ()) = (true, ()))))) ∧
       ((decide ((((z41.getD (zmin (list.length : Int) 200).toNat zerO)).T).x = 77)) = false →
       (false, ()) = (true, ()))))) ∧
      (z67 = false →
      (false, ()) = (true, ()))))))))))))))))))))))))))) ∧
     ((decide ((((z41.getD (zmin (list.length : Int) 200).toNat zerO)).T).x = 77)) = false →
     (false, ()) = (true, ()))))) ∧
    (z51 = false →
    (false, ()) = (true, ())))))))))))))))))))))))) ∧
   ((decide ((((z10.getD ((z5.length : Int)).toNat zerO)).T).x = 77)) = false →
   (false, ()) = (true, ()))))) ∧
  (z36 = false →
  (false, ()) = (true, ()))))))))))))))))))))))))))) ∧
 ((decide ((((z10.getD ((z5.length : Int)).toNat zerO)).T).x = 77)) = false →
 (false, ()) = (true, ()))))) ∧
(z20 = false →
(false, ()) = (true, ()))))))))))))))))))))))))))))))
theorem r_BasisGroups (x : HL C_BasisGroups.args) : runs (env0 [(8, C_f7of), (4, C_awake7.hid), (16, C_r5DocClose.hid), (6, C_spare7.hid), (7, C_bGroup.hid), (9, C_f7DocGroup.hid), (10, C_r5Same.hid)] [(3, 13, { fix := [], vars := [(.itmp 8, .list .op), (.tmp 66, .int .i64)], inv := fun y v => bwI v.1 v.2.1, mu := fun y v => opMu v.1 v.2.1 })] []) 2500 3 C_BasisGroups x = T_BasisGroups x.1 x.2.1 := by kernel_rfl
theorem p_BasisGroups (c : Chg) (list : List Op3) (h0 : (Sh.agg .chg).okA c) (h1 : (Sh.list .op).okA list) : T_BasisGroups c list := by
  unfold T_BasisGroups
  obtain ⟨n1, n2, n3, n4⟩ := zmin_len list
  refine ⟨trivial, fun z2 h2 => ⟨fun h => absurd h (by rw [h2]; decide), fun _ => ⟨⟨Int.le_refl _, n3, n4⟩, trivial, fun z5 h5 z7 h7 => ⟨fun _ => ?_, fun _ => ?_⟩⟩⟩⟩
  · exact bg_itr c (lsub list 0 (zmin (list.length : Int) 200)) (zmin (list.length : Int) 200) n1 n2 _ (bg_itr c (lsub list 0 (zmin (list.length : Int) 200)) (zmin (list.length : Int) 200) n1 n2 _ rfl)
  · exact bg_itr c z5 (z5.length : Int) rfl (by rw [h5]; exact dcl_sht _) _ (bg_itr c (lsub list 0 (zmin (list.length : Int) 200)) (zmin (list.length : Int) 200) n1 n2 _ rfl)
theorem s_BasisGroups : Sound Tryz.prog 3 C_BasisGroups :=
  sound_of_eq (env0_ok (.cons s_f7of (.cons s_awake7.hid (.cons s_r5DocClose.hid (.cons s_spare7.hid (.cons s_bGroup.hid (.cons s_f7DocGroup.hid (.cons s_r5Same.hid (.nil))))))))) (fun x => T_BasisGroups x.1 x.2.1) r_BasisGroups fun x ok hp => p_BasisGroups x.1 x.2.1 ok.1 ok.2.1
end Go.Fx
