/- THE CONDITION of the program's reading of a word holds. Printed by okn.py. -/
import Derived.Test.YtbopmiclcimjgaaGreatDoorOksN
namespace Go.Proofs.YtbopmiclcimjgaaGreatDoor
open Go Go.E2 Go.E3
set_option maxRecDepth 100000

set_option maxHeartbeats 16000000 in
theorem zah (a0:List UInt8) (hp:ln a0<=300):qsl a0:=by
  unfold qsl qhi qkg qe2 qkh qki qkj
  have q0:ln ([]:List UInt8)=0:=rfl
  have q4:ln ([116,117,114,110]:List UInt8)=4:=rfl
  have q3:ln ([115,105,103]:List UInt8)=3:=rfl
  have q8:ln ([88,76,66,83,77,81,70,90]:List UInt8)=8:=rfl
  have q5:ln ([32,94,118,62]:List UInt8)=4:=rfl
  have s1:sub ([32,94,118,62]:List UInt8) 1 2=[94]:=rfl
  have s2:sub ([32,94,118,62]:List UInt8) 2 3=[118]:=rfl
  have s3:sub ([32,94,118,62]:List UInt8) 3 4=[62]:=rfl
  simp only [q0,q4,q3,q8,q5,s1,s2,s3,zh0,Int.zero_add,zlk,zi1,eq_self,true_and]
  clear q0 q4 q3 q8 q5 s1 s2 s3
  have hn:=kb a0
  refine ⟨⟨⟨fun j a b=>absurd a (by omega)⟩,trivial⟩,fun i0=>⟨?_,fun i1=>⟨?_,fun i2=>⟨?_,fun i3=>⟨?_,fun i4=>⟨?_,fun i5=>⟨?_,fun i6=>⟨?_,fun i7=>⟨?_,fun i8=>⟨?_,fun i9=>⟨?_,fun i10=>⟨?_,fun i11=>⟨?_,fun i12=>?_⟩⟩⟩⟩⟩⟩⟩⟩⟩⟩⟩⟩⟩
  . simp only [qza,w0,w1,w2,w4,w5,w6,w7,qx]
    unhygienic (repeat' (first | exact trivial | (with_reducible exact rfl) | (with_reducible apply And.intro) | intro))
    all_goals first
      | omega
      | (with_reducible exact (pre_nil (by assumption)).elim)
      | (with_reducible exact q1a)
      | (with_reducible exact q64 (by assumption) (by assumption) (by assumption))
      | (with_reducible exact q62 (by assumption) (by assumption))
      | (with_reducible exact qux (by assumption) (by assumption))
      | (with_reducible exact quw (by assumption) (by assumption))
      | (with_reducible exact q2k (by assumption) (by assumption))
      | (with_reducible exact q2j (by assumption) (by assumption))
      | (with_reducible exact zma (by assumption) (by assumption) (by assumption) (by assumption))
      | (with_reducible exact zl9 (by assumption) (by assumption))
      | (with_reducible exact zks (by assumption) (by omega))
      | (with_reducible exact zkr (by assumption) (by omega))
      | (with_reducible exact qjc (by omega))
      | (with_reducible exact qls (by assumption) (by omega) (by assumption) (by assumption) (by assumption))
      | (with_reducible exact qlq (by omega))
      | (with_reducible exact qp0 (by assumption) (by assumption))
      | (with_reducible exact qw1 (by assumption) (by assumption))
      | (with_reducible exact qw0 (by assumption) (by assumption))
      | (with_reducible exact zk1 (by assumption))
      | (with_reducible exact zgd (by assumption))
      | (with_reducible exact zgd rfl)
      | (with_reducible exact qv9 hp (by omega) (by assumption) (by assumption) (by assumption))
      | exact Int.le_trans (qxy hp (by omega) (by assumption) (by assumption) (by assumption)) (by decide)
      | (with_reducible exact zk2 (by assumption) (by omega))
      | (with_reducible exact zk3 (by assumption) (by assumption) (by omega))
      | (with_reducible exact zk4 (by assumption) (by assumption) (by assumption) (by omega))
      | (with_reducible exact zk5 (by assumption) (by assumption) (by assumption) (by assumption))
      | exact qru 1 i0 (by decide) (by decide) (q6q (by assumption) (by assumption) (by assumption) (by assumption) (by assumption) (by first | exact qj8 (by assumption) | exact qj7 (by assumption)) (by assumption) (by omega)) (by assumption)
      | exact qrv 1 i0 (by decide) (by decide) (q6q (by assumption) (by assumption) (by assumption) (by assumption) (by assumption) (by first | exact qj8 (by assumption) | exact qj7 (by assumption)) (by assumption) (by omega)) (by assumption)
      | exact qc3 1 i0 (zf0 (by assumption) (by assumption) (by assumption) (by assumption) (by assumption) (by first | exact qj8 (by assumption) | exact qj7 (by assumption)) (by first | (left;assumption) | (right;assumption) | (right;omega)))
      | fail "rest"
  . simp only [qza,w5,qx]
    unhygienic (repeat' (first | exact trivial | (with_reducible exact rfl) | (with_reducible apply And.intro) | intro))
    all_goals first
      | omega
      | (with_reducible exact (pre_nil (by assumption)).elim)
      | (with_reducible exact q1a)
      | (with_reducible exact q64 (by assumption) (by assumption) (by assumption))
      | (with_reducible exact q62 (by assumption) (by assumption))
      | (with_reducible exact qux (by assumption) (by assumption))
      | (with_reducible exact quw (by assumption) (by assumption))
      | (with_reducible exact q2k (by assumption) (by assumption))
      | (with_reducible exact q2j (by assumption) (by assumption))
      | exact qru 2 i1 (by decide) (by decide) (q6r (by assumption) (by assumption) (by assumption) (by assumption) (by assumption)) (by assumption)
      | exact qrv 2 i1 (by decide) (by decide) (q6r (by assumption) (by assumption) (by assumption) (by assumption) (by assumption)) (by assumption)
      | exact qc3 2 i1 (zf1 (by assumption) (by assumption) (by assumption) (by assumption))
      | exact qc3 2 i1 (zkp (by assumption) (by assumption))
      | exact qc3 2 i1 (ziv (by assumption))
      | fail "rest"
  . simp only [qza,qx]
    unhygienic (repeat' (first | exact trivial | (with_reducible exact rfl) | (with_reducible apply And.intro) | intro))
    all_goals first
      | omega
      | (with_reducible exact (pre_nil (by assumption)).elim)
      | exact qru 3 i2 (by decide) (by decide) (q6t (by assumption) (by omega)) (by assumption)
      | exact qrv 3 i2 (by decide) (by decide) (q6t (by assumption) (by omega)) (by assumption)
      | exact qc3 3 i2 (q6s (.inl (by assumption)))
      | exact qc3 3 i2 (q6s (.inr (by omega)))
      | fail "rest"
  . simp only [qza,w0,w1,w2,w4,w7,w8,w9,w10,qx]
    unhygienic (repeat' (first | exact trivial | (with_reducible exact rfl) | (with_reducible apply And.intro) | intro))
    all_goals first
      | omega
      | (with_reducible exact (pre_nil (by assumption)).elim)
      | (with_reducible exact zks (by assumption) (by omega))
      | (with_reducible exact zkr (by assumption) (by omega))
      | (with_reducible exact qjc (by omega))
      | (with_reducible exact qls (by assumption) (by omega) (by assumption) (by assumption) (by assumption))
      | (with_reducible exact qlq (by omega))
      | (with_reducible exact qp0 (by assumption) (by assumption))
      | (with_reducible exact qw1 (by assumption) (by assumption))
      | (with_reducible exact qw0 (by assumption) (by assumption))
      | (with_reducible exact zk1 (by assumption))
      | (with_reducible exact zgd (by assumption))
      | (with_reducible exact zgd rfl)
      | (with_reducible exact qv9 hp (by omega) (by assumption) (by assumption) (by assumption))
      | exact Int.le_trans (qxy hp (by omega) (by assumption) (by assumption) (by assumption)) (by decide)
      | (with_reducible exact zk2 (by assumption) (by omega))
      | (with_reducible exact zk3 (by assumption) (by assumption) (by omega))
      | (with_reducible exact zk4 (by assumption) (by assumption) (by assumption) (by omega))
      | (with_reducible exact zk5 (by assumption) (by assumption) (by assumption) (by assumption))
      | (with_reducible exact zmb (by assumption) (by omega))
      | (with_reducible exact zmc (by assumption) (by assumption) (by omega))
      | (with_reducible exact zmd (by assumption) (by assumption) (by assumption) (by omega))
      | (with_reducible exact zme (by assumption) (by assumption) (by assumption) (by assumption))
      | (with_reducible exact zku (by assumption) (by omega))
      | (with_reducible exact zkt (by assumption) (by assumption))
      | exact zh2 (by assumption) (by assumption) (by assumption) (by assumption) (qj8 (by assumption)) (by omega) (by omega)
      | exact zh2 (by assumption) (by assumption) (by assumption) (by assumption) (qj7 (by assumption)) (by omega) (by omega)
      | exact qru 4 i3 (by decide) (by decide) (q6u (by assumption) (by assumption) (by assumption) (by assumption) (by first | exact qj8 (by assumption) | exact qj7 (by assumption)) (by assumption) (by omega)) (by assumption)
      | exact qrv 4 i3 (by decide) (by decide) (q6u (by assumption) (by assumption) (by assumption) (by assumption) (by first | exact qj8 (by assumption) | exact qj7 (by assumption)) (by assumption) (by omega)) (by assumption)
      | exact qc3 4 i3 (zf2 (by assumption) (by assumption) (by assumption) (by first | exact qj8 (by assumption) | exact qj7 (by assumption)) (by first | (left;assumption) | (right;assumption) | (right;omega)))
      | exact qc3 4 i3 (ziw (by assumption))
      | fail "rest"
  . simp only [zlp,qx]
    simp only [qza]
    unhygienic (repeat' (first | exact trivial | (with_reducible exact rfl) | (with_reducible apply And.intro) | intro))
    all_goals first
      | omega
      | (with_reducible exact (pre_nil (by assumption)).elim)
      | exact qhc hp (by omega) (by omega) (by omega)
      | exact Int.le_trans (qhc hp (by omega) (by omega) (by omega)) (by decide)
      | exact qru 5 i4 (by decide) (by decide) (q6v (by assumption) (by assumption) (by first | exact qj8 (by assumption) | exact qj7 (by assumption)) (by assumption) (by omega)) (by assumption)
      | exact qrv 5 i4 (by decide) (by decide) (q6v (by assumption) (by assumption) (by first | exact qj8 (by assumption) | exact qj7 (by assumption)) (by assumption) (by omega)) (by assumption)
      | exact qc3 5 i4 (zf4 (by first | exact qj8 (by assumption) | exact qj7 (by assumption)) (by first | (left;assumption) | (right;assumption) | (right;omega)))
      | exact qc3 5 i4 (zf3 (.inl (by assumption)))
      | exact qc3 5 i4 (zf3 (.inr (by assumption)))
      | fail "rest"
  . simp only [qza,w1,w2,w3,w11,qx]
    unhygienic (repeat' (first | exact trivial | (with_reducible exact rfl) | (with_reducible apply And.intro) | intro))
    all_goals first
      | omega
      | (with_reducible exact (pre_nil (by assumption)).elim)
      | exact qhc hp (by omega) (by omega) (by omega)
      | (with_reducible exact qjc (by omega))
      | (with_reducible exact qls (by assumption) (by omega) (by assumption) (by assumption) (by assumption))
      | (with_reducible exact qlq (by omega))
      | (with_reducible exact qp0 (by assumption) (by assumption))
      | (with_reducible exact qw1 (by assumption) (by assumption))
      | (with_reducible exact qw0 (by assumption) (by assumption))
      | (with_reducible exact zgc (by assumption))
      | (with_reducible exact q09 (by assumption))
      | (with_reducible exact q09 rfl)
      | (with_reducible exact zkw (by assumption) (by omega))
      | (with_reducible exact zkv (by assumption) (by assumption))
      | exact qru 6 i5 (by decide) (by decide) (q6w (by assumption) (by assumption) (by assumption) (by assumption) (by assumption) (by assumption) (by omega)) (by assumption)
      | exact qrv 6 i5 (by decide) (by decide) (q6w (by assumption) (by assumption) (by assumption) (by assumption) (by assumption) (by assumption) (by omega)) (by assumption)
      | exact qc3 6 i5 (zf5 (by assumption) (by assumption) (by assumption) (by assumption) (by assumption) (by first | (left;assumption) | (right;assumption) | (right;omega)))
      | fail "rest"
  . simp only [qza,w1,w2,w3,w12,qx]
    unhygienic (repeat' (first | exact trivial | (with_reducible exact rfl) | (with_reducible apply And.intro) | intro))
    all_goals first
      | omega
      | (with_reducible exact (pre_nil (by assumption)).elim)
      | exact qhc hp (by omega) (by omega) (by omega)
      | (with_reducible exact qjc (by omega))
      | (with_reducible exact qls (by assumption) (by omega) (by assumption) (by assumption) (by assumption))
      | (with_reducible exact qlq (by omega))
      | (with_reducible exact qp0 (by assumption) (by assumption))
      | (with_reducible exact qw1 (by assumption) (by assumption))
      | (with_reducible exact qw0 (by assumption) (by assumption))
      | (with_reducible exact zgc (by assumption))
      | (with_reducible exact q09 (by assumption))
      | (with_reducible exact q09 rfl)
      | (with_reducible exact zkx (by assumption))
      | (with_reducible exact zky (by assumption) (by assumption))
      | (with_reducible exact zkz (by assumption) (by assumption) (by assumption))
      | (with_reducible exact zk0 (by assumption) (by assumption) (by assumption) (by omega))
      | exact qru 7 i6 (by decide) (by decide) (q6x (by assumption) (by assumption) (by assumption) (by assumption) (by assumption) (by omega)) (by assumption)
      | exact qrv 7 i6 (by decide) (by decide) (q6x (by assumption) (by assumption) (by assumption) (by assumption) (by assumption) (by omega)) (by assumption)
      | exact qc3 7 i6 (zf6 (by assumption) (by assumption) (by assumption) (by first | (left;assumption) | (right;assumption) | (right;omega)))
      | exact qc3 7 i6 (zix (by assumption))
      | fail "rest"
  . simp only [qza,w1,w2,w3,qx]
    unhygienic (repeat' (first | exact trivial | (with_reducible exact rfl) | (with_reducible apply And.intro) | intro))
    all_goals first
      | omega
      | (with_reducible exact (pre_nil (by assumption)).elim)
      | exact qhc hp (by omega) (by omega) (by omega)
      | (with_reducible exact qjc (by omega))
      | (with_reducible exact qls (by assumption) (by omega) (by assumption) (by assumption) (by assumption))
      | (with_reducible exact qlq (by omega))
      | (with_reducible exact qp0 (by assumption) (by assumption))
      | (with_reducible exact qw1 (by assumption) (by assumption))
      | (with_reducible exact qw0 (by assumption) (by assumption))
      | (with_reducible exact zgc (by assumption))
      | (with_reducible exact q09 (by assumption))
      | (with_reducible exact q09 rfl)
      | exact qru 8 i7 (by decide) (by decide) (qr9 qwr (by assumption) (by assumption) (by assumption) (by assumption) (by omega)) (by assumption)
      | exact qrv 8 i7 (by decide) (by decide) (qr9 qwr (by assumption) (by assumption) (by assumption) (by assumption) (by omega)) (by assumption)
      | exact qc3 8 i7 (q6y qwr (by assumption) (by assumption) (by first | (left;assumption) | (right;assumption) | (right;omega)))
      | exact qc3 8 i7 (q8u qwr (by assumption))
      | fail "rest"
  . skip
    unhygienic (repeat' (first | exact trivial | (with_reducible exact rfl) | (with_reducible apply And.intro) | intro))
    all_goals first
      | omega
      | (with_reducible exact (pre_nil (by assumption)).elim)
      | exact qru 9 i8 (by decide) (by decide) (qlo (p:=[91]) rfl (by assumption) (by assumption)) (by assumption)
      | exact qrv 9 i8 (by decide) (by decide) (qlo (p:=[91]) rfl (by assumption) (by assumption)) (by assumption)
      | exact qc3 9 i8 (qln (p:=[91]) rfl (.inl (by assumption)))
      | exact qc3 9 i8 (qln (p:=[91]) rfl (.inr (by assumption)))
      | fail "rest"
  . simp only [qza,w1,w2,w3,qx]
    unhygienic (repeat' (first | exact trivial | (with_reducible exact rfl) | (with_reducible apply And.intro) | intro))
    all_goals first
      | omega
      | (with_reducible exact (pre_nil (by assumption)).elim)
      | exact qhc hp (by omega) (by omega) (by omega)
      | (with_reducible exact qjc (by omega))
      | (with_reducible exact qls (by assumption) (by omega) (by assumption) (by assumption) (by assumption))
      | (with_reducible exact qlq (by omega))
      | (with_reducible exact qp0 (by assumption) (by assumption))
      | (with_reducible exact qw1 (by assumption) (by assumption))
      | (with_reducible exact qw0 (by assumption) (by assumption))
      | (with_reducible exact zgc (by assumption))
      | (with_reducible exact q09 (by assumption))
      | (with_reducible exact q09 rfl)
      | exact qru 10 i9 (by decide) (by decide) (qr9 qps (by assumption) (by assumption) (by assumption) (by assumption) (by omega)) (by assumption)
      | exact qrv 10 i9 (by decide) (by decide) (qr9 qps (by assumption) (by assumption) (by assumption) (by assumption) (by omega)) (by assumption)
      | exact qc3 10 i9 (q6y qps (by assumption) (by assumption) (by first | (left;assumption) | (right;assumption) | (right;omega)))
      | exact qc3 10 i9 (q8u qps (by assumption))
      | fail "rest"
  . skip
    unhygienic (repeat' (first | exact trivial | (with_reducible exact rfl) | (with_reducible apply And.intro) | intro))
    all_goals first
      | omega
      | (with_reducible exact (pre_nil (by assumption)).elim)
      | exact qru 11 i10 (by decide) (by decide) (qlo (p:=[116,117,114,110]) rfl (by assumption) (by assumption)) (by assumption)
      | exact qrv 11 i10 (by decide) (by decide) (qlo (p:=[116,117,114,110]) rfl (by assumption) (by assumption)) (by assumption)
      | exact qc3 11 i10 (qln (p:=[116,117,114,110]) rfl (.inl (by assumption)))
      | exact qc3 11 i10 (qln (p:=[116,117,114,110]) rfl (.inr (by assumption)))
      | fail "rest"
  . skip
    unhygienic (repeat' (first | exact trivial | (with_reducible exact rfl) | (with_reducible apply And.intro) | intro))
    all_goals first
      | omega
      | (with_reducible exact (pre_nil (by assumption)).elim)
      | exact qru 12 i11 (by decide) (by decide) (qlo (p:=[115,105,103]) rfl (by assumption) (by assumption)) (by assumption)
      | exact qrv 12 i11 (by decide) (by decide) (qlo (p:=[115,105,103]) rfl (by assumption) (by assumption)) (by assumption)
      | exact qc3 12 i11 (qln (p:=[115,105,103]) rfl (.inl (by assumption)))
      | exact qc3 12 i11 (qln (p:=[115,105,103]) rfl (.inr (by assumption)))
      | fail "rest"
  . exact zl0 i12
end Go.Proofs.YtbopmiclcimjgaaGreatDoor
