/- Code of the library that is alike in all seats: insertion sorts, IndexFunc, DeleteFunc. Printed by a program of mine. Sorting few: what insertion sorts make; slices that may be written; the contract of insertionSortCmpFunc. The contracts of insertionSortOrdered, IndexFunc, DeleteFunc. The contract of DeleteFunc. Going through a map that stays as it is. More of slices, maps with their stamps, results in memory. Lists that are sorted in place: swaps, what stays, orders. A slice that grows, and whose header may be put back. -/
import Derived.Test.YtjcbeikfobfjmaaGreatUseA
set_option linter.unnecessarySimpa false
set_option linter.unusedVariables false
set_option linter.unusedSimpArgs false
set_option linter.unusedSectionVars false
namespace Camp
open Go
open Nat (reduceLT reduceEqDiff reduceAdd reduceLeDiff reduceSub reduceMul)
section
def insertC (sz:Nat):NF:=⟨53,[],
 .seq (.region [
  ⟨(some 10),(.mov (.t 1)),none⟩,
  ⟨(some 11),(.bin .add .num (.t 10) (.c (.c (.int .i64 1)))),none⟩,
  ⟨(some 8),(.mov (.t 11)),none⟩])
 (.seq (.kill [0,1,2,3,8] 0) (.block 0 (.loop (.seq (.kill [0,1,2,3,8] 0) (.seq (.seq (.region [
  ⟨(some 12),(.mov (.t 8)),none⟩,
  ⟨(some 13),(.mov (.t 2)),none⟩,
  ⟨(some 14),(.bin .lss .num (.t 12) (.t 13)),none⟩])
  (.seq (.kill [0,1,2,3,8,14] 0) (.cond (.t 14)
  (.skip)
  (.exit 0))))
  (.seq (.kill [0,1,2,3,8] 0) (.seq (.block 1 (.seq (.region [
   ⟨(some 17),(.mov (.t 8)),none⟩,
   ⟨(some 9),(.mov (.t 17)),none⟩])
  (.seq (.kill [0,1,2,3,8,9] 0) (.block 2 (.loop (.seq (.kill [0,1,2,3,8,9] 0) (.seq (.seq (.draw 0 [
   ⟨0,none,⟨(some 18),(.mov (.t 9)),none⟩,[]⟩,
   ⟨1,none,⟨(some 19),(.mov (.t 1)),none⟩,[]⟩,
   ⟨2,none,⟨(some 20),(.bin .gtr .num (.t 18) (.t 19)),none⟩,[]⟩,
   ⟨3,none,⟨(some 21),(.mov (.t 20)),none⟩,[]⟩,
   ⟨4,none,⟨(some 22),(.mov (.t 3)),(some (21,true))⟩,[]⟩,
   ⟨5,none,⟨(some 23),(.mov (.t 0)),(some (21,true))⟩,[]⟩,
   ⟨6,none,⟨(some 24),(.mov (.t 9)),(some (21,true))⟩,[]⟩,
   ⟨7,none,⟨(some 25),(.iaddr sz (.t 23) (.t 24)),(some (21,true))⟩,[]⟩,
   ⟨8,none,⟨(some 26),(.load (some sz) (.t 25)),(some (21,true))⟩,[]⟩,
   ⟨9,none,⟨(some 27),(.mov (.t 0)),(some (21,true))⟩,[]⟩,
   ⟨10,none,⟨(some 28),(.mov (.t 9)),(some (21,true))⟩,[]⟩,
   ⟨11,none,⟨(some 29),(.bin .sub .num (.t 28) (.c (.c (.int .i64 1)))),(some (21,true))⟩,[]⟩,
   ⟨12,none,⟨(some 30),(.iaddr sz (.t 27) (.t 29)),(some (21,true))⟩,[]⟩,
   ⟨13,none,⟨(some 31),(.load (some sz) (.t 30)),(some (21,true))⟩,[]⟩,
   ⟨14,none,⟨(some 32),(.dyn (.t 22) [(.t 26),(.t 31)]),(some (21,true))⟩,[]⟩,
   ⟨15,none,⟨(some 33),(.bin .lss .num (.t 32) (.c (.c (.int .i64 0)))),(some (21,true))⟩,[]⟩,
   ⟨16,none,⟨(some 34),(.pick (.t 21) (.t 33) (.c (.c (.bool false)))),none⟩,[]⟩])
   (.seq (.kill [0,1,2,3,8,9,34] 0) (.cond (.t 34)
   (.skip)
   (.exit 2))))
   (.seq (.kill [0,1,2,3,8,9] 0) (.seq (.block 3 (.draw 0 [
    ⟨0,none,⟨(some 37),(.mov (.t 0)),none⟩,[]⟩,
    ⟨1,none,⟨(some 38),(.mov (.t 9)),none⟩,[]⟩,
    ⟨2,none,⟨(some 39),(.mov (.t 0)),none⟩,[]⟩,
    ⟨3,none,⟨(some 40),(.mov (.t 9)),none⟩,[]⟩,
    ⟨4,none,⟨(some 41),(.bin .sub .num (.t 40) (.c (.c (.int .i64 1)))),none⟩,[]⟩,
    ⟨5,none,⟨(some 42),(.mov (.t 0)),none⟩,[]⟩,
    ⟨6,none,⟨(some 43),(.mov (.t 9)),none⟩,[]⟩,
    ⟨7,none,⟨(some 44),(.bin .sub .num (.t 43) (.c (.c (.int .i64 1)))),none⟩,[]⟩,
    ⟨8,none,⟨(some 45),(.iaddr sz (.t 42) (.t 44)),none⟩,[]⟩,
    ⟨9,none,⟨(some 46),(.load (some sz) (.t 45)),none⟩,[]⟩,
    ⟨10,none,⟨(some 47),(.mov (.t 0)),none⟩,[]⟩,
    ⟨11,none,⟨(some 48),(.mov (.t 9)),none⟩,[]⟩,
    ⟨12,none,⟨(some 49),(.iaddr sz (.t 47) (.t 48)),none⟩,[]⟩,
    ⟨13,none,⟨(some 50),(.load (some sz) (.t 49)),none⟩,[]⟩,
    ⟨14,none,⟨(some 51),(.iaddr sz (.t 37) (.t 38)),none⟩,[]⟩,
    ⟨15,none,⟨none,(.store sz (.t 51) (.t 46)),none⟩,[]⟩,
    ⟨16,none,⟨(some 52),(.iaddr sz (.t 39) (.t 41)),none⟩,[]⟩,
    ⟨17,none,⟨none,(.store sz (.t 52) (.t 50)),none⟩,[]⟩]))
   (.seq (.kill [0,1,2,3,8,9] 0) (.region [
    ⟨(some 35),(.mov (.t 9)),none⟩,
    ⟨(some 36),(.bin .sub .num (.t 35) (.c (.c (.int .i64 1)))),none⟩,
    ⟨(some 9),(.mov (.t 36)),none⟩])))))))))))
  (.seq (.kill [0,1,2,3,8] 0) (.region [
   ⟨(some 15),(.mov (.t 8)),none⟩,
   ⟨(some 16),(.bin .add .num (.t 15) (.c (.c (.int .i64 1)))),none⟩,
   ⟨(some 8),(.mov (.t 16)),none⟩])))))))))⟩
def insertO (ls:Nat):NF:=⟨49,[],
 .seq (.region [
  ⟨(some 8),(.mov (.t 1)),none⟩,
  ⟨(some 9),(.bin .add .num (.t 8) (.c (.c (.int .i64 1)))),none⟩,
  ⟨(some 6),(.mov (.t 9)),none⟩])
 (.seq (.kill [0,1,2,6] 0) (.block 0 (.loop (.seq (.kill [0,1,2,6] 0) (.seq (.seq (.region [
  ⟨(some 10),(.mov (.t 6)),none⟩,
  ⟨(some 11),(.mov (.t 2)),none⟩,
  ⟨(some 12),(.bin .lss .num (.t 10) (.t 11)),none⟩])
  (.seq (.kill [0,1,2,6,12] 0) (.cond (.t 12)
  (.skip)
  (.exit 0))))
  (.seq (.kill [0,1,2,6] 0) (.seq (.block 1 (.seq (.region [
   ⟨(some 15),(.mov (.t 6)),none⟩,
   ⟨(some 7),(.mov (.t 15)),none⟩])
  (.seq (.kill [0,1,2,6,7] 0) (.block 2 (.loop (.seq (.kill [0,1,2,6,7] 0) (.seq (.seq (.draw 0 [
   ⟨0,none,⟨(some 16),(.mov (.t 7)),none⟩,[]⟩,
   ⟨1,none,⟨(some 17),(.mov (.t 1)),none⟩,[]⟩,
   ⟨2,none,⟨(some 18),(.bin .gtr .num (.t 16) (.t 17)),none⟩,[]⟩,
   ⟨3,none,⟨(some 19),(.mov (.t 18)),none⟩,[]⟩,
   ⟨4,none,⟨(some 20),(.mov (.t 0)),(some (19,true))⟩,[]⟩,
   ⟨5,none,⟨(some 21),(.mov (.t 7)),(some (19,true))⟩,[]⟩,
   ⟨6,none,⟨(some 22),(.iaddr 1 (.t 20) (.t 21)),(some (19,true))⟩,[]⟩,
   ⟨7,none,⟨(some 23),(.load none (.t 22)),(some (19,true))⟩,[]⟩,
   ⟨8,none,⟨(some 24),(.mov (.t 0)),(some (19,true))⟩,[]⟩,
   ⟨9,none,⟨(some 25),(.mov (.t 7)),(some (19,true))⟩,[]⟩,
   ⟨10,none,⟨(some 26),(.bin .sub .num (.t 25) (.c (.c (.int .i64 1)))),(some (19,true))⟩,[]⟩,
   ⟨11,none,⟨(some 27),(.iaddr 1 (.t 24) (.t 26)),(some (19,true))⟩,[]⟩,
   ⟨12,none,⟨(some 28),(.load none (.t 27)),(some (19,true))⟩,[]⟩,
   ⟨13,none,⟨(some 29),(.call ls [(.t 23),(.t 28)]),(some (19,true))⟩,[]⟩,
   ⟨14,none,⟨(some 30),(.pick (.t 19) (.t 29) (.c (.c (.bool false)))),none⟩,[]⟩])
   (.seq (.kill [0,1,2,6,7,30] 0) (.cond (.t 30)
   (.skip)
   (.exit 2))))
   (.seq (.kill [0,1,2,6,7] 0) (.seq (.block 3 (.draw 0 [
    ⟨0,none,⟨(some 33),(.mov (.t 0)),none⟩,[]⟩,
    ⟨1,none,⟨(some 34),(.mov (.t 7)),none⟩,[]⟩,
    ⟨2,none,⟨(some 35),(.mov (.t 0)),none⟩,[]⟩,
    ⟨3,none,⟨(some 36),(.mov (.t 7)),none⟩,[]⟩,
    ⟨4,none,⟨(some 37),(.bin .sub .num (.t 36) (.c (.c (.int .i64 1)))),none⟩,[]⟩,
    ⟨5,none,⟨(some 38),(.mov (.t 0)),none⟩,[]⟩,
    ⟨6,none,⟨(some 39),(.mov (.t 7)),none⟩,[]⟩,
    ⟨7,none,⟨(some 40),(.bin .sub .num (.t 39) (.c (.c (.int .i64 1)))),none⟩,[]⟩,
    ⟨8,none,⟨(some 41),(.iaddr 1 (.t 38) (.t 40)),none⟩,[]⟩,
    ⟨9,none,⟨(some 42),(.load none (.t 41)),none⟩,[]⟩,
    ⟨10,none,⟨(some 43),(.mov (.t 0)),none⟩,[]⟩,
    ⟨11,none,⟨(some 44),(.mov (.t 7)),none⟩,[]⟩,
    ⟨12,none,⟨(some 45),(.iaddr 1 (.t 43) (.t 44)),none⟩,[]⟩,
    ⟨13,none,⟨(some 46),(.load none (.t 45)),none⟩,[]⟩,
    ⟨14,none,⟨(some 47),(.iaddr 1 (.t 33) (.t 34)),none⟩,[]⟩,
    ⟨15,none,⟨none,(.store 1 (.t 47) (.t 42)),none⟩,[]⟩,
    ⟨16,none,⟨(some 48),(.iaddr 1 (.t 35) (.t 37)),none⟩,[]⟩,
    ⟨17,none,⟨none,(.store 1 (.t 48) (.t 46)),none⟩,[]⟩]))
   (.seq (.kill [0,1,2,6,7] 0) (.region [
    ⟨(some 31),(.mov (.t 7)),none⟩,
    ⟨(some 32),(.bin .sub .num (.t 31) (.c (.c (.int .i64 1)))),none⟩,
    ⟨(some 7),(.mov (.t 32)),none⟩])))))))))))
  (.seq (.kill [0,1,2,6] 0) (.region [
   ⟨(some 13),(.mov (.t 6)),none⟩,
   ⟨(some 14),(.bin .add .num (.t 13) (.c (.c (.int .i64 1)))),none⟩,
   ⟨(some 6),(.mov (.t 14)),none⟩])))))))))⟩
def indexF (sz:Nat):NF:=⟨19,[4],
 .seq (.region [
  ⟨(some 4),(.mov (.c (.c (.int .i64 0)))),none⟩])
 (.seq (.kill [0,1] 0) (.seq (.seq (.region [
  ⟨(some 6),(.mov (.t 0)),none⟩,
  ⟨(some 7),(.len .sl (.t 6)),none⟩,
  ⟨(some 8),(.mov (.c (.c (.int .i64 0)))),none⟩])
 (.seq (.kill [0,1,7,8] 0) (.block 0 (.loop (.seq (.kill [0,1,7,8] 0) (.seq (.region [
  ⟨(some 9),(.bin .lss .num (.t 8) (.t 7)),none⟩])
  (.seq (.kill [0,1,7,8,9] 0) (.seq (.cond (.t 9)
  (.skip)
  (.exit 0))
  (.seq (.kill [0,1,7,8] 0) (.seq (.block 1 (.seq (.region [
   ⟨(some 10),(.mov (.t 8)),none⟩,
   ⟨(some 5),(.mov (.t 10)),none⟩])
  (.seq (.kill [0,1,5,7,8] 0) (.seq (.region [
   ⟨(some 11),(.mov (.t 1)),none⟩,
   ⟨(some 12),(.mov (.t 0)),none⟩,
   ⟨(some 13),(.mov (.t 5)),none⟩,
   ⟨(some 14),(.iaddr sz (.t 12) (.t 13)),none⟩,
   ⟨(some 15),(.load (some sz) (.t 14)),none⟩,
   ⟨(some 16),(.dyn (.t 11) [(.t 15)]),none⟩])
  (.seq (.kill [0,1,5,7,8,16] 0) (.cond (.t 16)
  (.seq (.region [
   ⟨(some 17),(.mov (.t 5)),none⟩,
   ⟨(some 4),(.mov (.t 17)),none⟩])
   (.ret))
  (.skip)))))))
  (.seq (.kill [0,1,7,8] 0) (.region [
   ⟨(some 18),(.bin .add .num (.t 8) (.c (.c (.int .i64 1)))),none⟩,
   ⟨(some 8),(.mov (.t 18)),none⟩]))))))))))))
 (.seq (.kill [] 0) (.seq (.region [
  ⟨(some 4),(.mov (.c (.c (.int .i64 (-1))))),none⟩])
 (.ret)))))⟩
def deleteF (sz ix:Nat) (zero:List CV):NF:=⟨42,[4],
 .seq (.region [
  ⟨(some 4),(.mov (.c (.c .nils))),none⟩])
 (.seq (.kill [0,1] 0) (.seq (.region [
  ⟨(some 8),(.mov (.t 0)),none⟩,
  ⟨(some 9),(.mov (.t 1)),none⟩,
  ⟨(some 10),(.call ix [(.t 8),(.t 9)]),none⟩,
  ⟨(some 5),(.mov (.t 10)),none⟩])
 (.seq (.kill [0,1,5] 0) (.seq (.seq (.region [
  ⟨(some 11),(.mov (.t 5)),none⟩,
  ⟨(some 12),(.bin .eql .num (.t 11) (.c (.c (.int .i64 (-1))))),none⟩])
 (.seq (.kill [0,1,5,12] 0) (.cond (.t 12)
 (.seq (.region [
  ⟨(some 13),(.mov (.t 0)),none⟩,
  ⟨(some 4),(.mov (.t 13)),none⟩])
  (.ret))
 (.skip))))
 (.seq (.kill [0,1,5] 0) (.seq (.seq (.region [
  ⟨(some 14),(.mov (.t 5)),none⟩,
  ⟨(some 15),(.bin .add .num (.t 14) (.c (.c (.int .i64 1)))),none⟩,
  ⟨(some 6),(.mov (.t 15)),none⟩])
 (.seq (.kill [0,1,5,6] 0) (.block 0 (.loop (.seq (.kill [0,1,5,6] 0) (.seq (.seq (.region [
  ⟨(some 16),(.mov (.t 6)),none⟩,
  ⟨(some 17),(.mov (.t 0)),none⟩,
  ⟨(some 18),(.len .sl (.t 17)),none⟩,
  ⟨(some 19),(.bin .lss .num (.t 16) (.t 18)),none⟩])
  (.seq (.kill [0,1,5,6,19] 0) (.cond (.t 19)
  (.skip)
  (.exit 0))))
  (.seq (.kill [0,1,5,6] 0) (.seq (.block 1 (.seq (.region [
   ⟨(some 22),(.mov (.t 0)),none⟩,
   ⟨(some 23),(.mov (.t 6)),none⟩,
   ⟨(some 24),(.iaddr sz (.t 22) (.t 23)),none⟩,
   ⟨(some 25),(.load (some sz) (.t 24)),none⟩,
   ⟨(some 7),(.box true sz (.c (.agg zero))),none⟩,
   ⟨none,(.store sz (.t 7) (.t 25)),none⟩])
  (.seq (.kill [0,1,5,6,7] 1) (.seq (.region [
   ⟨(some 26),(.mov (.t 1)),none⟩,
   ⟨(some 27),(.load (some sz) (.t 7)),none⟩,
   ⟨(some 28),(.dyn (.t 26) [(.t 27)]),none⟩,
   ⟨(some 29),(.un .not (.t 28)),none⟩])
  (.seq (.kill [0,1,5,6,7,29] 1) (.cond (.t 29)
  (.seq (.region [
   ⟨(some 30),(.mov (.t 0)),none⟩,
   ⟨(some 31),(.mov (.t 5)),none⟩,
   ⟨(some 32),(.load (some sz) (.t 7)),none⟩,
   ⟨(some 33),(.iaddr sz (.t 30) (.t 31)),none⟩,
   ⟨none,(.store sz (.t 33) (.t 32)),none⟩])
   (.seq (.kill [0,1,5,6] 0) (.region [
    ⟨(some 34),(.mov (.t 5)),none⟩,
    ⟨(some 35),(.bin .add .num (.t 34) (.c (.c (.int .i64 1)))),none⟩,
    ⟨(some 5),(.mov (.t 35)),none⟩])))
  (.skip)))))))
  (.seq (.kill [0,1,5,6] 0) (.region [
   ⟨(some 20),(.mov (.t 6)),none⟩,
   ⟨(some 21),(.bin .add .num (.t 20) (.c (.c (.int .i64 1)))),none⟩,
   ⟨(some 6),(.mov (.t 21)),none⟩]))))))))))
 (.seq (.kill [0,5] 0) (.seq (.region [
  ⟨(some 36),(.mov (.t 0)),none⟩,
  ⟨(some 37),(.mov (.t 5)),none⟩,
  ⟨(some 38),(.slice sz (.t 36) (some (.t 37)) none none),none⟩,
  ⟨none,(.clear sz zero (.t 38)),none⟩])
 (.seq (.kill [0,5] 0) (.seq (.region [
  ⟨(some 39),(.mov (.t 0)),none⟩,
  ⟨(some 40),(.mov (.t 5)),none⟩,
  ⟨(some 41),(.slice sz (.t 39) none (some (.t 40)) none),none⟩,
  ⟨(some 4),(.mov (.t 41)),none⟩])
 (.ret)))))))))))⟩
end
section
set_option maxHeartbeats 4000000
def Ins {α:Type} (lt:α→α→Prop) (x:α) (S T:List α):Prop:=∃ A B,S=A++B∧T=A++x::B∧(∀ y∈B,lt x y)∧∀ A' y,A=A'++[y]→¬lt x y
inductive ISort {α:Type} (lt:α→α→Prop):List α→List α→Prop
 | nil:ISort lt [] []
 | snoc {L S T:List α} {x:α}:ISort lt L S→Ins lt x S T→ISort lt (L++[x]) T
theorem ISort.perm {α:Type} {lt:α→α→Prop} {L T:List α} (h:ISort lt L T):T.Perm L:=by
 induction h with
 | nil=>exact List.Perm.refl _
 | @snoc L S T x hs hi ih=>
  obtain ⟨A,B,rfl,rfl,_,_⟩:=hi
  have p1:(A++x::B).Perm (A++B++[x]):=by
   rw [List.append_assoc]
   exact List.Perm.append_left A (List.perm_append_comm (l₁:=[x]))
  exact p1.trans (List.Perm.append_right [x] ih)
theorem ISort.sorted {α:Type} {lt:α→α→Prop} (tr:∀ x y z,lt x y→lt y z→lt x z) {L T:List α} (h:ISort lt L T) (ht:∀ x∈L,∀ y∈L,x≠y→lt x y∨lt y x) (hn:L.Nodup):T.Pairwise lt:=by
 induction h with
 | nil=>exact List.Pairwise.nil
 | @snoc L S T x hs hi ih=>
  have hp:=hs.perm
  rw [List.nodup_append] at hn
  have hs2:=ih (fun a ha b hb=>ht a (by simp [ha]) b (by simp [hb])) hn.1
  obtain ⟨A,B,rfl,rfl,h1,h2⟩:=hi
  rw [List.pairwise_append] at hs2 ⊢
  have hx:∀ y∈A++B,lt x y∨lt y x:=by
   intro y hy
   have hyL:=hp.mem_iff.mp hy
   exact ht x (by simp) y (by simp [hyL]) (fun e=>hn.2.2 y hyL x (by simp) e.symm)
  refine ⟨hs2.1,?_,?_⟩
  ·rw [List.pairwise_cons]
   exact ⟨h1,hs2.2.1⟩
  ·have hA:∀ a∈A,lt a x:=by
    rcases List.eq_nil_or_concat A with hA|⟨A',y,hA⟩
    ·subst hA;simp
    ·rw [List.concat_eq_append] at hA
     have hyx:lt y x:=(hx y (by simp [hA])).resolve_left (h2 A' y hA)
     subst hA
     intro a ha
     rcases List.mem_append.mp ha with ha|ha
     ·exact tr a y x ((List.pairwise_append.mp hs2.1).2.2 a ha y (by simp)) hyx
     ·simp at ha;subst ha;exact hyx
   intro a ha b hb
   rcases List.mem_cons.mp hb with rfl|hb
   ·exact hA a ha
   ·exact hs2.2.2 a ha b hb
def Ow (h:Hp) (sz:Nat):CV→List (List CV)→Prop
 | .nils,rows=>rows=[]
 | .sl id tok off len cap,rows=>off=0∧cap=none∧∃ lw rs,h.g id=some (.rows true sz tok lw rs)∧lw≤tok∧len≤rs.length∧rows=rs.take len
 | _,_=>False
section
variable {h:Hp} {sz:Nat} {v:CV} {rows:List (List CV)} {lc:List (List CV)}
theorem Ow.sl (k:Ow h sz v rows):SL h sz v rows:=by
 cases v <;> simp only [Ow] at k
 case nils=>subst k;rfl
 case sl id tok off len cap=>
  obtain ⟨rfl,rfl,lw,rs,h1,h2,h3,rfl⟩:=k
  exact ⟨true,tok,lw,rs,h1,h2,by omega,by simp⟩
theorem Ow.cap (k:Ow h sz v rows):∀ id tok off len cap,v = .sl id tok off len cap→cap=none:=by
 rintro id tok off len cap rfl
 exact k.2.1
theorem Own.ow (k:Own h sz v rows):Ow h sz v rows:=by
 cases v <;> simp only [Own] at k
 case nils=>exact k
 case sl id tok off len cap=>
  obtain ⟨rfl,rfl,rfl,h1⟩:=k
  exact ⟨rfl,rfl,0,rows,h1,Nat.zero_le _,Nat.le_refl _,by simp⟩
theorem Ow.mono {S:Nat→Prop} {h':Hp} (k:Ow h sz v rows) (f:Fm S h h') (hS:∀ j,ownId v j→¬S j):Ow h' sz v rows:=by
 cases v <;> simp only [Ow] at k
 case nils=>exact k
 case sl id tok off len cap=>
  obtain ⟨rfl,rfl,lw,rs,h1,h2,h3,h4⟩:=k
  exact ⟨rfl,rfl,lw,rs,f.some h1 (hS _ rfl),h2,h3,h4⟩
theorem Ow.new {h':Hp} (k:Ow h sz v rows) (f:Fn h h'):Ow h' sz v rows:=k.mono f (fun _ _ h=>h)
theorem Ow.lt (k:Ow h sz v rows) {j:Nat} (hj:ownId v j):j<h.n:=by
 cases v <;> simp only [ownId] at hj
 case sl id tok off len cap=>
  obtain ⟨_,_,lw,rs,h1,_⟩:=k
  subst hj
  exact lt_of_g h1
theorem Ow.app (k:Ow h sz v rows) {x:TV} {xs:List (List CV)} (hx:sliceRows h lc sz x=some xs) (hne:xs≠[]) {bytes:Nat} (hb:(rows.length+xs.length) * bytes≤room) :
 ∃ v' h',appT h lc sz bytes (.v (.c v)) x=some (v',h')∧Ow h' sz v' (rows++xs)∧Fm (ownId v) h h'∧(∀ j,ownId v' j→ownId v j∨h.n≤j):=by
 cases xs with
 | nil=>exact absurd rfl hne
 | cons y ys=>
  cases v <;> simp only [Ow] at k
  case nils=>
   subst k
   refine ⟨.sl h.n 0 0 (y::ys).length none,h.push (.rows true sz 0 0 (y::ys)),?_,?_,Fm.push _ _ _,?_⟩
   ·simp only [appT,asC_c,Option.bind_some,hx,appRows]
    rw [if_pos (by simpa using hb)]
    rfl
   ·exact ⟨rfl,rfl,0,_,g_push_eq _ _,Nat.zero_le _,Nat.le_refl _,by simp⟩
   ·intro j hj
    simp only [ownId] at hj
    exact .inr (by omega)
  case sl id tok off len cap=>
   obtain ⟨rfl,rfl,lw,rs,h1,h2,h3,rfl⟩:=k
   have hlen:(rs.take len).length=len:=by rw [List.length_take];omega
   rw [hlen] at hb
   by_cases hfit:len+(y::ys).length≤rs.length
   ·refine ⟨.sl id tok 0 (len+(y::ys).length) none,h.put id (.rows true sz tok tok (spliceRows rs (0+len) (y::ys))),?_,?_,Fm.put _ _ rfl,fun j hj=>.inl hj⟩
    ·simp only [appT,asC_c,Option.bind_some,hx,appRows,g_def,h1]
     rw [if_pos ⟨trivial,h2,hb⟩,if_pos trivial,if_neg (fun e=>Nat.lt_irrefl _ e.1),if_pos ⟨trivial,by omega⟩]
    ·have hl2:(rs.take len++(y::ys)).length=len+(y::ys).length:=by rw [List.length_append,hlen]
     refine ⟨rfl,rfl,_,_,by rw [g_put_eq,h1];rfl,Nat.le_refl _,?_,?_⟩
     ·unfold spliceRows
      rw [Nat.zero_add,List.length_append,hl2,List.length_drop]
      omega
     ·unfold spliceRows
      rw [Nat.zero_add,List.take_append_of_le_length (Nat.le_of_eq hl2.symm),List.take_of_length_le (Nat.le_of_eq hl2)]
   refine ⟨.sl id (tok+1) 0 (len+(y::ys).length) none,h.put id (.rows true sz (tok+1) (if 0+len=rs.length then lw else tok+1) (rs.take (0+len)++(y::ys))),?_,?_,Fm.put _ _ rfl,fun j hj=>.inl hj⟩
   ·simp only [appT,asC_c,Option.bind_some,hx,appRows,g_def,h1]
    rw [if_pos ⟨trivial,h2,hb⟩,if_pos trivial,if_neg (fun e=>Nat.lt_irrefl _ e.1),if_neg (fun e=>hfit (by have:=e.2;omega))]
   ·refine ⟨rfl,rfl,_,_,by rw [g_put_eq,h1];rfl,?_,?_,?_⟩
    ·split <;> omega
    ·rw [Nat.zero_add,List.length_append,hlen];omega
    ·rw [Nat.zero_add]
     exact (List.take_of_length_le (by rw [List.length_append,hlen];omega)).symm
theorem Ow.pre (k:Ow h sz v rows) (h0:0<sz) {m:Int} (hm:0≤m∧m≤rows.length) :
 ∃ v',sliceT h sz (.v (.c v)) none (some m) none=some v'∧Ow h sz v' (rows.take m.toNat)∧∀ j,ownId v' j↔ownId v j:=by
 cases v <;> simp only [Ow] at k
 case nils=>
  subst k
  have:m=0:=by simp at hm;omega
  subst this
  refine ⟨.nils,?_,?_,fun j=>Iff.rfl⟩
  ·simp [sliceT,sliceV,h0]
  ·simp [Ow]
 case sl id tok off len cap=>
  obtain ⟨rfl,rfl,lw,rs,h1,h2,h3,rfl⟩:=k
  simp only [List.length_take] at hm
  refine ⟨.sl id tok 0 m.toNat none,?_,?_,fun j=>Iff.rfl⟩
  ·simp only [sliceT,sliceV,g_def,h1]
   rw [if_pos ⟨h0,trivial,h2⟩]
   unfold sliceB
   rw [if_pos]
   ·simp
   ·simp;omega
  ·refine ⟨rfl,rfl,lw,rs,h1,h2,by omega,?_⟩
   rw [List.take_take,Nat.min_eq_left (by omega)]
end
theorem iaS {h:Hp} {wr:Bool} {sz cur lw id tok n:Nat} {rs:List (List CV)} {i:Int} (hg:h.g id=some (.rows wr sz cur lw rs)) (hlw:lw≤tok) (hi:0≤i∧i<n) (c:Option Nat) :
 iaddrT h sz (.v (.c (.sl id tok 0 n c))) i=some (.v (.c (.ptr id tok i.toNat 0))):=by
 simp only [iaddrT,iaddrV,g_def,hg]
 rw [if_pos ⟨trivial,hlw,hi.1,by omega⟩,Nat.zero_add]
theorem set_midE {α:Type} (enc:α→List CV) (A:List α) (y x:α) (B:List α) (rest:List (List CV)):((A++y::B).map enc++rest).set A.length (enc x)=(A++x::B).map enc++rest:=by
 induction A with
 | nil=>rfl
 | cons a A ih=>exact congrArg (enc a::·) ih
theorem get_midE {α:Type} (enc:α→List CV) (A:List α) (y:α) (B:List α) (rest:List (List CV)):((A++y::B).map enc++rest)[A.length]? = some (enc y):=by
 simp [List.getElem?_append_right,List.getElem?_append_left]
section
variable {M:Nat→Option NF} {α:Type} {enc:α→List CV} {cmp:α→α→Int} {caps:List CV} {k f g sz:Nat} {h:Hp} {P:AV→Hp→Prop}
def InsJ (enc:α→List CV) (cmp:α→α→Int) (caps:List CV) (g sz:Nat) (h:Hp) (id tok:Nat) (n:Nat) (i:Nat) (x:α) (S R:List α) (rest:List (List CV)) (m:Nat) (s:St):Prop:=
 ∃ (A B:List α) (lw:Nat) (h':Hp) (l:List (Nat × TV)) (lc:List (List CV)),s=ST 53 l lc h'∧m=A.length∧A++B=S∧(∀ y∈B,cmp x y<0)∧h'.g id=some (.rows true sz tok lw ((A++x::(B++R)).map enc++rest))∧lw≤tok∧Fm (fun j=>j=id) h h'∧
  lk l 0 = .v (.c (.sl id tok 0 n none))∧lk l 1 = .v (.c (.int .i64 0))∧lk l 2 = .v (.c (.int .i64 n))∧lk l 3 = .v (.c (.fn g caps))∧lk l 8 = .v (.c (.int .i64 i))∧lk l 9 = .v (.c (.int .i64 A.length))
def OutJ (enc:α→List CV) (cmp:α→α→Int) (caps:List CV) (g sz:Nat) (h:Hp) (id tok:Nat) (L:List α) (rest:List (List CV)) (m:Nat) (s:St):Prop:=
 ∃ (i:Nat) (S:List α) (lw:Nat) (h':Hp) (l:List (Nat × TV)) (lc:List (List CV)),s=ST 53 l lc h'∧1≤i∧(i=1∨i≤L.length)∧m=L.length-i∧ISort (fun x y=>cmp x y<0) (L.take i) S∧h'.g id=some (.rows true sz tok lw ((S++L.drop i).map enc++rest))∧lw≤tok∧Fm (fun j=>j=id) h h'∧
  lk l 0 = .v (.c (.sl id tok 0 L.length none))∧lk l 1 = .v (.c (.int .i64 0))∧lk l 2 = .v (.c (.int .i64 L.length))∧lk l 3 = .v (.c (.fn g caps))∧lk l 8 = .v (.c (.int .i64 i))
theorem insertC_ok {id tok lw:Nat} {L:List α} {rest:List (List CV)} (hf:M f=some (insertC sz)) (henc:∀ x,(enc x).length=sz)
 (hc:∀ x y h' (Q:AV→Hp→Prop),Fm (fun j=>j=id) h h'→(∀ h'',Fn h' h''→Q (.c (.int .i64 (cmp x y))) h'')→callW M k g (.agg (enc x)::.agg (enc y)::caps.map .c) h' Q)
 (hg:h.g id=some (.rows true sz tok lw (L.map enc++rest))) (hlw:lw≤tok) (hn:L.length≤1000000000)
 (hP:∀ h' lw' T,h'.g id=some (.rows true sz tok lw' (T.map enc++rest))→lw'≤tok→ISort (fun x y=>cmp x y<0) L T→Fm (fun j=>j=id) h h'→P (.tup []) h') :
 callW M (k+1) f [.c (.sl id tok 0 L.length none),.c (.int .i64 0),.c (.int .i64 L.length),.c (.fn g caps)] h P:=by
 have w0:=wrap_i64 (n:=0+1) (by omega)
 have htk:∀ x,(enc x).take sz=enc x:=fun x=>List.take_of_length_le (Nat.le_of_eq (henc x))
 have hdr:∀ x,(enc x).drop sz=[]:=fun x=>List.drop_of_length_le (Nat.le_of_eq (henc x))
 refine call_intro hf (by simp only [List.length_cons,List.length_nil];omega) ?_
 simp only [KK,ne_eq,↓reduceIte,reduceLT,reduceEqDiff,reduceAdd,reduceLeDiff,reduceSub,reduceMul,reduceCtorEq,w0]
 refine loop_rd (callW_mono M _) (OutJ enc cmp caps g sz h id tok L rest) (n:=L.length-1) ⟨1,L.take 1,lw,h,_,_,rfl,by omega,by omega,by omega,?_,?_,hlw,Fm.refl _ _,rfl,rfl,rfl,rfl,rfl⟩ ?_
 ·cases L with
  | nil=>exact ISort.nil
  | cons a L=>exact ISort.snoc (L:=[]) ISort.nil ⟨[],[],rfl,rfl,by simp,by simp⟩
 ·rw [List.take_append_drop];exact hg
 rintro m s ⟨i,S,lw1,h1,l,lc,rfl,hi1,hi2,hm,hs,hg1,hlw1,hfm,e0,e1,e2,e3,e8⟩
 by_cases hlt:(i:Int)<L.length
 ·have hil:i<L.length:=by omega
  obtain ⟨x,hx⟩:∃ x,L[i]? = some x:=⟨_,List.getElem?_eq_getElem hil⟩
  have hdrp:L.drop i=x::L.drop (i+1):=by
   rw [List.drop_eq_getElem_cons hil]
   rw [List.getElem?_eq_getElem hil] at hx
   injection hx with hx
   rw [hx]
  have hSl:S.length=i:=by rw [hs.perm.length_eq,List.length_take];omega
  simp only [KK,ne_eq,↓reduceIte,reduceLT,reduceEqDiff,reduceAdd,reduceLeDiff,reduceSub,reduceMul,reduceCtorEq,e0,e1,e2,e3,e8,hlt]
  refine loop_rd (callW_mono M _) (InsJ enc cmp caps g sz h id tok L.length i x S (L.drop (i+1)) rest) (n:=i) ⟨S,[],lw1,h1,_,_,rfl,hSl.symm,List.append_nil _,by simp,?_,hlw1,hfm,rfl,rfl,rfl,rfl,rfl,by rw [hSl];rfl⟩ ?_
  ·rw [List.nil_append,←hdrp];exact hg1
  clear e0 e1 e2 e3 e8 hg1 hlw1 hfm
  rintro m2 s ⟨A,B,lw2,h2,l,lc,rfl,hm2,hAB,hB,hg2,hlw2,hfm2,e0,e1,e2,e3,e8,e9⟩
  have w1:=wrap_i64 (n:=(i:Int)+1) (by omega)
  have out:(∀ A' y,A=A'++[y]→¬cmp x y<0)→∀ h3,Fn h2 h3→∀ (l:List (Nat × TV)) lc,lk l 0 = .v (.c (.sl id tok 0 L.length none))→lk l 1 = .v (.c (.int .i64 0))→lk l 2 = .v (.c (.int .i64 L.length))→lk l 3 = .v (.c (.fn g caps))→lk l 8 = .v (.c (.int .i64 ((i:Int)+1)))→
   ∃ m',m'<m∧OutJ enc cmp caps g sz h id tok L rest m' (ST 53 l lc h3):=by
   intro hA h3 hf3 l lc k0 k1 k2 k3 k8
   refine ⟨m-1,by omega,i+1,A++x::B,lw2,h3,l,lc,rfl,by omega,by omega,by omega,?_,?_,hlw2,hfm2.trans (hf3.mono (fun _ _ h=>h.elim)),k0,k1,k2,k3,by rw [k8];rfl⟩
   ·rw [take_snoc hx]
    exact ISort.snoc hs ⟨A,B,hAB.symm,rfl,hB,hA⟩
   ·rw [show (A++x::B)++L.drop (i+1)=A++x::(B++L.drop (i+1)) by simp]
    exact hf3.some hg2 (fun h=>h)
  have hABl:A.length+B.length=i:=by rw [←List.length_append,hAB,hSl]
  rcases List.eq_nil_or_concat A with hA|⟨A',y,hA⟩
  ·subst hA
   have z:¬((0:Int)<((0:Nat):Int)):=by omega
   simp only [KK,ne_eq,↓reduceIte,reduceLT,reduceEqDiff,reduceAdd,reduceLeDiff,reduceSub,reduceMul,reduceCtorEq,e0,e1,e2,e3,e8,e9,w1,rd_n,z]
   exact out (by simp) h2 (Fm.refl _ _) _ _ rfl rfl rfl rfl rfl
  ·rw [List.concat_eq_append] at hA
   subst hA
   have e9':lk l 9 = .v (.c (.int .i64 ((A'.length:Int)+1))):=by rw [e9];simp
   rw [List.length_append,List.length_singleton] at hABl
   have hg3:h2.g id=some (.rows true sz tok lw2 ((A'++y::x::(B++L.drop (i+1))).map enc++rest)):=by rw [hg2];simp
   have hll:A'.length+1<L.length:=by omega
   have z:(0:Int)<(A'.length:Int)+1:=by omega
   have s1:(A'.length:Int)+1-1=A'.length:=by omega
   have w2:=wrap_i64 (n:=(A'.length:Int)) (by omega)
   have t1:((A'.length:Int)+1).toNat=A'.length+1:=by omega
   have t2:(A'.length:Int).toNat=A'.length:=by omega
   have r1:((A'++y::x::(B++L.drop (i+1))).map enc++rest)[A'.length+1]? = some (enc x):=by
    have:=get_midE enc (A'++[y]) x (B++L.drop (i+1)) rest
    simpa using this
   have r2:=get_midE enc A' y (x::(B++L.drop (i+1))) rest
   have s2:((A'++y::x::(B++L.drop (i+1))).map enc++rest).set (A'.length+1) (enc y)=(A'++y::y::(B++L.drop (i+1))).map enc++rest:=by
    have:=set_midE enc (A'++[y]) x y (B++L.drop (i+1)) rest
    simpa using this
   have s3:=set_midE enc A' y x (y::(B++L.drop (i+1))) rest
   have r3:=get_midE enc A' y (y::(B++L.drop (i+1))) rest
   generalize hR1:(A'++y::x::(B++L.drop (i+1))).map enc++rest=R1 at *
   generalize hR2:(A'++y::y::(B++L.drop (i+1))).map enc++rest=R2 at *
   have i1:=iaS (n:=L.length) (i:=(A'.length:Int)+1) hg3 hlw2 (by omega) none
   have i2:=iaS (n:=L.length) (i:=(A'.length:Int)) hg3 hlw2 (by omega) none
   have hlw3:lw2≤tok:=hlw2
   simp only [KK,ne_eq,↓reduceIte,reduceLT,reduceEqDiff,reduceAdd,reduceLeDiff,reduceSub,reduceMul,reduceCtorEq,e0,e1,e2,e3,e8,e9',z,i1,i2,t1,t2,s1,w2,hg3,hlw3,r1,r2,henc,htk]
   refine hc x y _ _ hfm2 fun h3 hf3=>?_
   have hg4:h3.g id=some (.rows true sz tok lw2 R1):=hf3.some hg3 (fun h=>h)
   have i1':=iaS (n:=L.length) (i:=(A'.length:Int)+1) hg4 hlw2 (by omega) none
   have i2':=iaS (n:=L.length) (i:=(A'.length:Int)) hg4 hlw2 (by omega) none
   by_cases c:cmp x y<0
   ·have hgP:(h3.put id (.rows true sz tok tok R2)).g id=some (.rows true sz tok tok R2):=by rw [g_put_eq,hg4];rfl
    have i3:=iaS (n:=L.length) (i:=(A'.length:Int)) hgP (Nat.le_refl _) (by omega) none
    simp only [KK,ne_eq,↓reduceIte,reduceLT,reduceEqDiff,reduceAdd,reduceLeDiff,reduceSub,reduceMul,reduceCtorEq,c,i1',i2',i3,t1,t2,s1,s2,s3,w2,hg4,hgP,hlw3,r1,r2,r3,henc,htk,hdr,rd_n]
    refine ⟨A'.length,by rw [hm2];simp,A',y::B,tok,_,_,_,rfl,rfl,by rw [←hAB];simp,?_,?_,Nat.le_refl _,((hfm2.trans (hf3.mono (fun _ _ h=>h.elim))).trans (Fm.put _ _ rfl)).trans (Fm.put _ _ rfl),rfl,rfl,rfl,rfl,rfl,rfl⟩
    ·intro z hz
     rcases List.mem_cons.mp hz with rfl|hz
     ·exact c
     ·exact hB z hz
    ·rw [g_put_eq,hgP];rfl
   ·simp only [KK,ne_eq,↓reduceIte,reduceLT,reduceEqDiff,reduceAdd,reduceLeDiff,reduceSub,reduceMul,reduceCtorEq,c,w1,rd_n]
    refine out ?_ h3 hf3 _ _ rfl rfl rfl rfl rfl
    intro A2 y2 hA2
    have:=List.append_inj_right' hA2 rfl
    injection this with this
    rw [←this]
    exact c
 ·simp only [KK,ne_eq,↓reduceIte,reduceLT,reduceEqDiff,reduceAdd,reduceLeDiff,reduceSub,reduceMul,reduceCtorEq,e0,e1,e2,e3,e8,hlt]
  refine hP _ _ S ?_ hlw1 ?_ hfm
  ·rw [List.drop_of_length_le (by omega),List.append_nil] at hg1
   exact hg1
  ·rw [List.take_of_length_le (by omega)] at hs
   exact hs
end
end
section
set_option maxHeartbeats 4000000
def encI (x:Int):List CV:=[.int .i64 x]
section
variable {M:Nat→Option NF} {k f ls:Nat} {h:Hp} {P:AV→Hp→Prop}
def InsO (h:Hp) (id tok:Nat) (n:Nat) (i:Nat) (x:Int) (S R:List Int) (rest:List (List CV)) (m:Nat) (s:St):Prop:=
 ∃ (A B:List Int) (lw:Nat) (h':Hp) (l:List (Nat × TV)) (lc:List (List CV)),s=ST 49 l lc h'∧m=A.length∧A++B=S∧(∀ y∈B,x<y)∧h'.g id=some (.rows true 1 tok lw ((A++x::(B++R)).map encI++rest))∧lw≤tok∧Fm (fun j=>j=id) h h'∧
  lk l 0 = .v (.c (.sl id tok 0 n none))∧lk l 1 = .v (.c (.int .i64 0))∧lk l 2 = .v (.c (.int .i64 n))∧lk l 6 = .v (.c (.int .i64 i))∧lk l 7 = .v (.c (.int .i64 A.length))
def OutO (h:Hp) (id tok:Nat) (L:List Int) (rest:List (List CV)) (m:Nat) (s:St):Prop:=
 ∃ (i:Nat) (S:List Int) (lw:Nat) (h':Hp) (l:List (Nat × TV)) (lc:List (List CV)),s=ST 49 l lc h'∧1≤i∧(i=1∨i≤L.length)∧m=L.length-i∧ISort (fun x y=>x<y) (L.take i) S∧h'.g id=some (.rows true 1 tok lw ((S++L.drop i).map encI++rest))∧lw≤tok∧Fm (fun j=>j=id) h h'∧
  lk l 0 = .v (.c (.sl id tok 0 L.length none))∧lk l 1 = .v (.c (.int .i64 0))∧lk l 2 = .v (.c (.int .i64 L.length))∧lk l 6 = .v (.c (.int .i64 i))
theorem insertO_ok {id tok lw:Nat} {L:List Int} {rest:List (List CV)} (hf:M f=some (insertO ls))
 (hc:∀ x y h' (Q:AV→Hp→Prop),Q (.c (.bool (decide (x<y)))) h'→callW M k ls [.c (.int .i64 x),.c (.int .i64 y)] h' Q)
 (hg:h.g id=some (.rows true 1 tok lw (L.map encI++rest))) (hlw:lw≤tok) (hn:L.length≤1000000000)
 (hP:∀ h' lw' T,h'.g id=some (.rows true 1 tok lw' (T.map encI++rest))→lw'≤tok→ISort (fun x y=>x<y) L T→Fm (fun j=>j=id) h h'→P (.tup []) h') :
 callW M (k+1) f [.c (.sl id tok 0 L.length none),.c (.int .i64 0),.c (.int .i64 L.length)] h P:=by
 have w0:=wrap_i64 (n:=0+1) (by omega)
 refine call_intro hf (by simp only [List.length_cons,List.length_nil];omega) ?_
 simp only [KK,ne_eq,↓reduceIte,reduceLT,reduceEqDiff,reduceAdd,reduceLeDiff,reduceSub,reduceMul,reduceCtorEq,w0]
 refine loop_rd (callW_mono M _) (OutO h id tok L rest) (n:=L.length-1) ⟨1,L.take 1,lw,h,_,_,rfl,by omega,by omega,by omega,?_,?_,hlw,Fm.refl _ _,rfl,rfl,rfl,rfl⟩ ?_
 ·cases L with
  | nil=>exact ISort.nil
  | cons a L=>exact ISort.snoc (L:=[]) ISort.nil ⟨[],[],rfl,rfl,by simp,by simp⟩
 ·rw [List.take_append_drop];exact hg
 rintro m s ⟨i,S,lw1,h1,l,lc,rfl,hi1,hi2,hm,hs,hg1,hlw1,hfm,e0,e1,e2,e8⟩
 by_cases hlt:(i:Int)<L.length
 ·have hil:i<L.length:=by omega
  obtain ⟨x,hx⟩:∃ x,L[i]? = some x:=⟨_,List.getElem?_eq_getElem hil⟩
  have hdrp:L.drop i=x::L.drop (i+1):=by
   rw [List.drop_eq_getElem_cons hil]
   rw [List.getElem?_eq_getElem hil] at hx
   injection hx with hx
   rw [hx]
  have hSl:S.length=i:=by rw [hs.perm.length_eq,List.length_take];omega
  simp only [KK,ne_eq,↓reduceIte,reduceLT,reduceEqDiff,reduceAdd,reduceLeDiff,reduceSub,reduceMul,reduceCtorEq,e0,e1,e2,e8,hlt]
  refine loop_rd (callW_mono M _) (InsO h id tok L.length i x S (L.drop (i+1)) rest) (n:=i) ⟨S,[],lw1,h1,_,_,rfl,hSl.symm,List.append_nil _,by simp,?_,hlw1,hfm,rfl,rfl,rfl,rfl,by rw [hSl];rfl⟩ ?_
  ·rw [List.nil_append,←hdrp];exact hg1
  clear e0 e1 e2 e8 hg1 hlw1 hfm
  rintro m2 s ⟨A,B,lw2,h2,l,lc,rfl,hm2,hAB,hB,hg2,hlw2,hfm2,e0,e1,e2,e8,e9⟩
  have w1:=wrap_i64 (n:=(i:Int)+1) (by omega)
  have out:(∀ A' y,A=A'++[y]→¬x<y)→∀ (l:List (Nat × TV)) lc,lk l 0 = .v (.c (.sl id tok 0 L.length none))→lk l 1 = .v (.c (.int .i64 0))→lk l 2 = .v (.c (.int .i64 L.length))→lk l 6 = .v (.c (.int .i64 ((i:Int)+1)))→
   ∃ m',m'<m∧OutO h id tok L rest m' (ST 49 l lc h2):=by
   intro hA l lc k0 k1 k2 k8
   refine ⟨m-1,by omega,i+1,A++x::B,lw2,h2,l,lc,rfl,by omega,by omega,by omega,?_,?_,hlw2,hfm2,k0,k1,k2,by rw [k8];rfl⟩
   ·rw [take_snoc hx]
    exact ISort.snoc hs ⟨A,B,hAB.symm,rfl,hB,hA⟩
   ·rw [show (A++x::B)++L.drop (i+1)=A++x::(B++L.drop (i+1)) by simp]
    exact hg2
  have hABl:A.length+B.length=i:=by rw [←List.length_append,hAB,hSl]
  rcases List.eq_nil_or_concat A with hA|⟨A',y,hA⟩
  ·subst hA
   have z:¬((0:Int)<((0:Nat):Int)):=by omega
   simp only [KK,ne_eq,↓reduceIte,reduceLT,reduceEqDiff,reduceAdd,reduceLeDiff,reduceSub,reduceMul,reduceCtorEq,e0,e1,e2,e8,e9,w1,rd_n,z]
   exact out (by simp) _ _ rfl rfl rfl rfl
  ·rw [List.concat_eq_append] at hA
   subst hA
   have e9':lk l 7 = .v (.c (.int .i64 ((A'.length:Int)+1))):=by rw [e9];simp
   rw [List.length_append,List.length_singleton] at hABl
   have hg3:h2.g id=some (.rows true 1 tok lw2 ((A'++y::x::(B++L.drop (i+1))).map encI++rest)):=by rw [hg2];simp
   have hll:A'.length+1<L.length:=by omega
   have z:(0:Int)<(A'.length:Int)+1:=by omega
   have s1:(A'.length:Int)+1-1=A'.length:=by omega
   have w2:=wrap_i64 (n:=(A'.length:Int)) (by omega)
   have t1:((A'.length:Int)+1).toNat=A'.length+1:=by omega
   have t2:(A'.length:Int).toNat=A'.length:=by omega
   have r1:((A'++y::x::(B++L.drop (i+1))).map encI++rest)[A'.length+1]? = some [.int .i64 x]:=by
    have:=get_midE encI (A'++[y]) x (B++L.drop (i+1)) rest
    simpa [encI] using this
   have r2:((A'++y::x::(B++L.drop (i+1))).map encI++rest)[A'.length]? = some [.int .i64 y]:=get_midE encI A' y (x::(B++L.drop (i+1))) rest
   have s2:((A'++y::x::(B++L.drop (i+1))).map encI++rest).set (A'.length+1) [.int .i64 y] = (A'++y::y::(B++L.drop (i+1))).map encI++rest:=by
    have:=set_midE encI (A'++[y]) x y (B++L.drop (i+1)) rest
    simpa [encI] using this
   have s3:((A'++y::y::(B++L.drop (i+1))).map encI++rest).set A'.length [.int .i64 x] = (A'++x::y::(B++L.drop (i+1))).map encI++rest:=set_midE encI A' y x (y::(B++L.drop (i+1))) rest
   have r3:((A'++y::y::(B++L.drop (i+1))).map encI++rest)[A'.length]? = some [.int .i64 y]:=get_midE encI A' y (y::(B++L.drop (i+1))) rest
   generalize hR1:(A'++y::x::(B++L.drop (i+1))).map encI++rest=R1 at *
   generalize hR2:(A'++y::y::(B++L.drop (i+1))).map encI++rest=R2 at *
   have i1:=iaS (n:=L.length) (i:=(A'.length:Int)+1) hg3 hlw2 (by omega) none
   have i2:=iaS (n:=L.length) (i:=(A'.length:Int)) hg3 hlw2 (by omega) none
   have hlw3:lw2≤tok:=hlw2
   simp only [KK,ne_eq,↓reduceIte,reduceLT,reduceEqDiff,reduceAdd,reduceLeDiff,reduceSub,reduceMul,reduceCtorEq,e0,e1,e2,e8,e9',z,i1,i2,t1,t2,s1,w2,hg3,hlw3,r1,r2]
   refine hc x y _ _ ?_
   by_cases c:x<y
   ·have hgP:(h2.put id (.rows true 1 tok tok R2)).g id=some (.rows true 1 tok tok R2):=by rw [g_put_eq,hg3];rfl
    have i3:=iaS (n:=L.length) (i:=(A'.length:Int)) hgP (Nat.le_refl _) (by omega) none
    simp only [KK,ne_eq,↓reduceIte,reduceLT,reduceEqDiff,reduceAdd,reduceLeDiff,reduceSub,reduceMul,reduceCtorEq,c,i1,i2,i3,t1,t2,s1,s2,s3,w2,hg3,hgP,hlw3,r1,r2,r3,rd_n]
    refine ⟨A'.length,by rw [hm2];simp,A',y::B,tok,_,_,_,rfl,rfl,by rw [←hAB];simp,?_,?_,Nat.le_refl _,(hfm2.trans (Fm.put _ _ rfl)).trans (Fm.put _ _ rfl),rfl,rfl,rfl,rfl,rfl⟩
    ·intro z hz
     rcases List.mem_cons.mp hz with rfl|hz
     ·exact c
     ·exact hB z hz
    ·rw [g_put_eq,hgP];rfl
   ·simp only [KK,ne_eq,↓reduceIte,reduceLT,reduceEqDiff,reduceAdd,reduceLeDiff,reduceSub,reduceMul,reduceCtorEq,c,w1,rd_n]
    refine out ?_ _ _ rfl rfl rfl rfl
    intro A2 y2 hA2
    have:=List.append_inj_right' hA2 rfl
    injection this with this
    rw [←this]
    exact c
 ·simp only [KK,ne_eq,↓reduceIte,reduceLT,reduceEqDiff,reduceAdd,reduceLeDiff,reduceSub,reduceMul,reduceCtorEq,e0,e1,e2,e8,hlt]
  refine hP _ _ S ?_ hlw1 ?_ hfm
  ·rw [List.drop_of_length_le (by omega),List.append_nil] at hg1
   exact hg1
  ·rw [List.take_of_length_le (by omega)] at hs
   exact hs
end
section
variable {M:Nat→Option NF} {α:Type} {enc:α→List CV} {p:α→Bool} {caps:List CV} {k f g sz ix:Nat} {h:Hp} {P:AV→Hp→Prop}
def Sv (h:Hp) (sz:Nat) (v:CV) (rows:List (List CV)):Prop:=
 (∀ h':Hp,lenT h' .sl (.v (.c v))=some (rows.length:Int))∧∀ (h':Hp) (i:Int) (r:List CV),Fn h h'→0≤i→rows[i.toNat]? = some r→
  ∃ id tok j,iaddrT h' sz (.v (.c v)) i=some (.v (.c (.ptr id tok j 0)))∧rowO (h'.g id) tok j=some r
theorem SL.sv {v:CV} {rows:List (List CV)} (k:SL h sz v rows):Sv h sz v rows:=⟨k.len,fun h' i r f h0 hr=>(k.new f).at h0 hr⟩
theorem Sv.new {h':Hp} {v:CV} {rows:List (List CV)} (k:Sv h sz v rows) (f:Fn h h'):Sv h' sz v rows:=⟨k.1,fun h2 i r f2=>k.2 h2 i r (f.trans f2)⟩
theorem Sv.at {v:CV} {rows:List (List CV)} (k:Sv h sz v rows) {i:Int} {r:List CV} (h0:0≤i) (hr:rows[i.toNat]? = some r):∃ id tok j,iaddrT h sz (.v (.c v)) i=some (.v (.c (.ptr id tok j 0)))∧rowO (h.g id) tok j=some r:=k.2 h i r (Fm.refl _ _) h0 hr
theorem Sv.len {v:CV} {rows:List (List CV)} (k:Sv h sz v rows) (h':Hp):lenT h' .sl (.v (.c v))=some (rows.length:Int):=k.1 h'
def IdxI (p:α→Bool) (caps:List CV) (g:Nat) (h:Hp) (v:CV) (L:List α) (m:Nat) (s:St):Prop:=
 ∃ (i:Nat) (h':Hp) (l:List (Nat × TV)) (lc:List (List CV)),s=ST 19 l lc h'∧i≤L.length∧m=L.length-i∧(∀ y∈L.take i,p y=false)∧Fn h h'∧
  lk l 0 = .v (.c v)∧lk l 1 = .v (.c (.fn g caps))∧lk l 7 = .v (.c (.int .i64 L.length))∧lk l 8 = .v (.c (.int .i64 i))
theorem indexF_ok {v:CV} {L:List α} (hf:M f=some (indexF sz)) (henc:∀ x,(enc x).length=sz)
 (hc:∀ x h' (Q:AV→Hp→Prop),Fn h h'→(∀ h'',Fn h' h''→Q (.c (.bool (p x))) h'')→callW M k g (.agg (enc x)::caps.map .c) h' Q)
 (hl:Sv h sz v (L.map enc)) (hn:L.length≤1000000000)
 (h0:∀ h',Fn h h'→(∀ x∈L,p x=false)→P (.c (.int .i64 (-1))) h')
 (h1:∀ h' (i:Nat) x,Fn h h'→L[i]? = some x→p x=true→(∀ y∈L.take i,p y=false)→P (.c (.int .i64 i)) h') :
 callW M (k+1) f [.c v,.c (.fn g caps)] h P:=by
 have htk:∀ x,(enc x).take sz=enc x:=fun x=>List.take_of_length_le (Nat.le_of_eq (henc x))
 have hlen:∀ h':Hp,lenT h' .sl (.v (.c v))=some (L.length:Int):=fun h'=>by rw [hl.len h',List.length_map]
 refine call_intro hf (by simp only [List.length_cons,List.length_nil];omega) ?_
 simp only [KK,ne_eq,↓reduceIte,reduceLT,reduceEqDiff,reduceAdd,reduceLeDiff,reduceSub,reduceMul,reduceCtorEq,hlen]
 refine loop_rd (callW_mono M _) (IdxI p caps g h v L) (n:=L.length) ⟨0,h,_,_,rfl,by omega,by omega,by simp,Fm.refl _ _,rfl,rfl,rfl,rfl⟩ ?_
 rintro m s ⟨i,h2,l,lc,rfl,hi,hm,hno,hfn,e0,e1,e7,e8⟩
 by_cases hlt:(i:Int)<L.length
 ·have hil:i<L.length:=by omega
  obtain ⟨x,hx⟩:∃ x,L[i]? = some x:=⟨_,List.getElem?_eq_getElem hil⟩
  have hr:(L.map enc)[(i:Int).toNat]? = some (enc x):=by simp [hx]
  obtain ⟨p1,p2,p3,a1,a2⟩:=(hl.new hfn).at (by omega) hr
  have hw:=wrap_i64 (n:=(i:Int)+1) (by omega)
  simp only [KK,ne_eq,↓reduceIte,reduceLT,reduceEqDiff,reduceAdd,reduceLeDiff,reduceSub,reduceMul,reduceCtorEq,e0,e1,e7,e8,hlt,a1,a2,henc,htk]
  refine hc x _ _ hfn fun h3 hf3=>?_
  cases hp:p x with
  | true=>
   simp only [KK,ne_eq,↓reduceIte,reduceLT,reduceEqDiff,reduceAdd,reduceLeDiff,reduceSub,reduceMul,reduceCtorEq]
   exact h1 h3 i x (hfn.trans hf3) hx hp hno
  | false=>
   simp only [KK,ne_eq,↓reduceIte,reduceLT,reduceEqDiff,reduceAdd,reduceLeDiff,reduceSub,reduceMul,reduceCtorEq,hw,rd_n]
   refine ⟨m-1,by omega,i+1,_,_,_,rfl,by omega,by omega,?_,hfn.trans hf3,rfl,rfl,rfl,rfl⟩
   rw [take_snoc hx]
   intro y hy
   rcases List.mem_append.mp hy with hy|hy
   ·exact hno y hy
   ·simp at hy;subst hy;exact hp
 ·simp only [KK,ne_eq,↓reduceIte,reduceLT,reduceEqDiff,reduceAdd,reduceLeDiff,reduceSub,reduceMul,reduceCtorEq,e0,e1,e7,e8,hlt]
  refine h0 _ hfn ?_
  rw [List.take_of_length_le (by omega)] at hno
  exact hno
end
end
section
set_option maxHeartbeats 4000000
section
variable {M:Nat→Option NF} {α:Type} {enc:α→List CV} {p:α→Bool} {caps:List CV} {k f g sz ix:Nat} {h:Hp} {P:AV→Hp→Prop}
def DelI (enc:α→List CV) (p:α→Bool) (caps:List CV) (g sz:Nat) (h:Hp) (id tok:Nat) (L:List α) (rest:List (List CV)) (m:Nat) (s:St):Prop:=
 ∃ (j lw:Nat) (G:List α) (h':Hp) (l:List (Nat × TV)) (lc:List (List CV)),s=ST 42 l lc h'∧j≤L.length∧m=L.length-j∧G≠[]∧((L.take j).filter fun x=>!p x).length+G.length=j∧
  h'.g id=some (.rows true sz tok lw ((((L.take j).filter fun x=>!p x)++G++L.drop j).map enc++rest))∧lw≤tok∧Fm (fun j=>j=id) h h'∧
  lk l 0 = .v (.c (.sl id tok 0 L.length none))∧lk l 1 = .v (.c (.fn g caps))∧lk l 5 = .v (.c (.int .i64 ((L.take j).filter fun x=>!p x).length))∧lk l 6 = .v (.c (.int .i64 j))
theorem sliceLo {id tok lw n:Nat} {rs:List (List CV)} {m:Nat} (hg:h.g id=some (.rows true sz tok lw rs)) (hlw:lw≤tok) (h0:0<sz) (hm:m≤n) :
 sliceT h sz (.v (.c (.sl id tok 0 n none))) (some (m:Int)) none none=some (.sl id tok m (n-m) none):=by
 simp only [sliceT,sliceV,g_def,hg]
 rw [if_pos ⟨h0,trivial,hlw⟩]
 unfold sliceB
 rw [if_pos (by simp;omega)]
 simp
theorem sliceHi {id tok lw n:Nat} {rs:List (List CV)} {m:Nat} (hg:h.g id=some (.rows true sz tok lw rs)) (hlw:lw≤tok) (h0:0<sz) (hm:m≤n) :
 sliceT h sz (.v (.c (.sl id tok 0 n none))) none (some (m:Int)) none=some (.sl id tok 0 m none):=by
 simp only [sliceT,sliceV,g_def,hg]
 rw [if_pos ⟨h0,trivial,hlw⟩]
 unfold sliceB
 rw [if_pos (by simp;omega)]
 simp
theorem clear_ok {id tok lw off n:Nat} {rs:List (List CV)} {zero:List CV} {lc:List (List CV)} (hg:h.g id=some (.rows true sz tok lw rs)) (hn:n≠0) :
 clearV ⟨[],lc,h⟩ sz zero (.v (.c (.sl id tok off n none)))=some ⟨.v (.tup []),lc,h.put id (.rows true sz tok tok (spliceRows rs off (List.replicate n zero)))⟩:=by
 simp [clearV,hn,g_def,hg]
theorem deleteF_ok {v:CV} {L:List α} {zero:List CV} (hf:M f=some (deleteF sz ix zero)) (hx:M ix=some (indexF sz)) (henc:∀ x,(enc x).length=sz) (h0:0<sz) (hz:zero.length=sz)
 (hc:∀ x h' (Q:AV→Hp→Prop),Fm (ownId v) h h'→(∀ h'',Fn h' h''→Q (.c (.bool (p x))) h'')→callW M (k+1) g (.agg (enc x)::caps.map .c) h' Q)
 (hc2:∀ x h' (Q:AV→Hp→Prop),Fn h h'→(∀ h'',Fn h' h''→Q (.c (.bool (p x))) h'')→callW M k g (.agg (enc x)::caps.map .c) h' Q)
 (hl:Ow h sz v (L.map enc)) (hn:L.length≤1000000000)
 (hP:∀ h' v',Ow h' sz v' ((L.filter fun x=>!p x).map enc)→Fm (ownId v) h h'→(∀ j,ownId v' j→ownId v j)→P (.c v') h') :
 callW M (k+2) f [.c v,.c (.fn g caps)] h P:=by
 have htk:∀ x,(enc x).take sz=enc x:=fun x=>List.take_of_length_le (Nat.le_of_eq (henc x))
 have hdr:∀ x,(enc x).drop sz=[]:=fun x=>List.drop_of_length_le (Nat.le_of_eq (henc x))
 have hzk:zero.take sz=zero:=List.take_of_length_le (Nat.le_of_eq hz)
 have hzd:zero.drop sz=[]:=List.drop_of_length_le (Nat.le_of_eq hz)
 refine call_intro hf (by simp only [List.length_cons,List.length_nil];omega) ?_
 simp only [KK,ne_eq,↓reduceIte,reduceLT,reduceEqDiff,reduceAdd,reduceLeDiff,reduceSub,reduceMul,reduceCtorEq]
 refine indexF_ok (k:=k) hx henc hc2 hl.sl.sv hn (fun h1 hf1 hno=>?_) fun h1 i x hf1 hxi hpx hno=>?_
 ·have d:decide ((-1:Int) = -1)=true:=by decide
  simp only [KK,ne_eq,↓reduceIte,reduceLT,reduceEqDiff,reduceAdd,reduceLeDiff,reduceSub,reduceMul,reduceCtorEq,d]
  have hfl:(L.filter fun x=>!p x)=L:=by
   rw [List.filter_eq_self]
   intro a ha
   simp [hno a ha]
  refine hP _ v ?_ (hf1.mono (fun _ _ h=>h.elim)) (fun j h=>h)
  rw [hfl]
  exact hl.new hf1
 ·have hil:i<L.length:=by
   rcases Nat.lt_or_ge i L.length with h|h
   ·exact h
   ·rw [List.getElem?_eq_none h] at hxi;cases hxi
  cases v <;> simp only [Ow] at hl
  case nils=>
   have:L=[]:=by cases L with|nil=>rfl|cons a L=>simp at hl
   subst this
   simp at hil
  case sl id tok off len cap=>
   obtain ⟨rfl,rfl,lw,rs,hg,hlw,hle,hrs⟩:=hl
   have hlen0:L.length=len:=by
    have:=congrArg List.length hrs
    rw [List.length_map,List.length_take] at this
    omega
   subst hlen0
   have hg':h.g id=some (.rows true sz tok lw (L.map enc++rs.drop L.length)):=by rw [hg,hrs,List.take_append_drop]
   have w1:=wrap_i64 (n:=(i:Int)+1) (by omega)
   have z1:¬((i:Int) = -1):=by omega
   have hlen:∀ h':Hp,lenT h' .sl (.v (.c (.sl id tok 0 L.length none)))=some (L.length:Int):=fun h'=>rfl
   have hfil:((L.take (i+1)).filter fun x=>!p x)=L.take i:=by
    rw [take_snoc hxi,List.filter_append]
    have e1:((L.take i).filter fun x=>!p x)=L.take i:=by
     rw [List.filter_eq_self]
     intro a ha
     simp [hno a ha]
    rw [e1]
    simp [List.filter_cons,hpx]
   have hti:(L.take i).length=i:=by rw [List.length_take];omega
   simp only [KK,ne_eq,↓reduceIte,reduceLT,reduceEqDiff,reduceAdd,reduceLeDiff,reduceSub,reduceMul,reduceCtorEq,w1,z1]
   refine loop_rd (callW_mono M _) (DelI enc p caps g sz h id tok L (rs.drop L.length)) (n:=L.length-(i+1)) ⟨i+1,lw,[x],h1,_,_,rfl,by omega,rfl,by simp,by rw [hfil,hti];rfl,?_,hlw,hf1.mono (fun _ _ h=>h.elim),rfl,rfl,by rw [hfil,hti];rfl,rfl⟩ ?_
   ·rw [hfil,←take_snoc hxi,List.take_append_drop]
    exact hf1.some hg' (fun h=>h)
   clear hfil hti w1 z1 hf1 hno hpx hxi hil
   rintro m s ⟨j,lw2,G,h2,l,lc,rfl,hj,hm,hG,hGl,hg2,hlw2,hfm2,e0,e1,e5,e6⟩
   by_cases hlt:(j:Int)<L.length
   ·have hjl:j<L.length:=by omega
    obtain ⟨y,hy⟩:∃ y,L[j]? = some y:=⟨_,List.getElem?_eq_getElem hjl⟩
    have hdrp:L.drop j=y::L.drop (j+1):=by
     rw [List.drop_eq_getElem_cons hjl]
     rw [List.getElem?_eq_getElem hjl] at hy
     injection hy with hy
     rw [hy]
    have w1:=wrap_i64 (n:=(j:Int)+1) (by omega)
    have tj:(j:Int).toNat=j:=by omega
    have i1:=iaS (n:=L.length) (i:=(j:Int)) hg2 hlw2 (by omega) none
    have r1:((((L.take j).filter fun x=>!p x)++G++L.drop j).map enc++rs.drop L.length)[j]? = some (enc y):=by
     have:=get_midE enc (((L.take j).filter fun x=>!p x)++G) y (L.drop (j+1)) (rs.drop L.length)
     rw [List.length_append,hGl,←hdrp] at this
     exact this
    generalize hR0:(((L.take j).filter fun x=>!p x)++G++L.drop j).map enc++rs.drop L.length=R0 at *
    simp only [KK,ne_eq,↓reduceIte,reduceLT,reduceEqDiff,reduceAdd,reduceLeDiff,reduceSub,reduceMul,reduceCtorEq,e0,e1,e5,e6,hlen,hlt,i1,tj,hg2,hlw2,r1,henc,htk,hz,hzd]
    refine hc y _ _ hfm2 fun h3 hf3=>?_
    have hg3:=hf3.some hg2 (fun h=>h)
    have hfm3:=hfm2.trans (hf3.mono (S':=fun j=>j=id) (fun _ _ h=>h.elim))
    cases hp:p y with
    | true=>
     simp only [KK,ne_eq,↓reduceIte,reduceLT,reduceEqDiff,reduceAdd,reduceLeDiff,reduceSub,reduceMul,reduceCtorEq,w1,rd_n]
     have hfil:((L.take (j+1)).filter fun x=>!p x)=(L.take j).filter fun x=>!p x:=by
      rw [take_snoc hy,List.filter_append]
      simp [List.filter_cons,hp]
     refine ⟨m-1,by omega,j+1,lw2,G++[y],h3,_,_,rfl,by omega,by omega,by simp,by rw [hfil,List.length_append];simp;omega,?_,hlw2,hfm3,rfl,rfl,by rw [hfil];rfl,rfl⟩
     rw [hfil]
     have:((L.take j).filter fun x=>!p x)++(G++[y])++L.drop (j+1)=((L.take j).filter fun x=>!p x)++G++L.drop j:=by rw [hdrp];simp
     rw [this,hR0]
     exact hg3
    | false=>
     cases G with
     | nil=>exact absurd rfl hG
     | cons g0 G'=>
      have hfil:((L.take (j+1)).filter fun x=>!p x)=((L.take j).filter fun x=>!p x)++[y]:=by
       rw [take_snoc hy,List.filter_append]
       simp [List.filter_cons,hp]
      have hfl:=hGl
      rw [List.length_cons] at hfl
      have i2:=iaS (n:=L.length) (i:=(((L.take j).filter fun x=>!p x).length:Int)) hg3 hlw2 (by omega) none
      have t2:((((L.take j).filter fun x=>!p x).length:Nat):Int).toNat=((L.take j).filter fun x=>!p x).length:=by omega
      have r2:((((L.take j).filter fun x=>!p x)++g0::G'++L.drop j).map enc++rs.drop L.length)[((L.take j).filter fun x=>!p x).length]? = some (enc g0):=by
       have:=get_midE enc ((L.take j).filter fun x=>!p x) g0 (G'++L.drop j) (rs.drop L.length)
       rw [←this]
       simp
      have s2:((((L.take j).filter fun x=>!p x)++g0::G'++L.drop j).map enc++rs.drop L.length).set ((L.take j).filter fun x=>!p x).length (enc y)=(((L.take j).filter fun x=>!p x)++y::(G'++L.drop j)).map enc++rs.drop L.length:=by
       rw [←set_midE enc ((L.take j).filter fun x=>!p x) g0 y (G'++L.drop j) (rs.drop L.length)]
       simp
      have w2:=wrap_i64 (n:=(((L.take j).filter fun x=>!p x).length:Int)+1) (by omega)
      rw [hR0] at r2 s2
      simp only [KK,ne_eq,↓reduceIte,reduceLT,reduceEqDiff,reduceAdd,reduceLeDiff,reduceSub,reduceMul,reduceCtorEq,i2,t2,hg3,r2,s2,henc,htk,hdr,w1,w2,rd_n]
      refine ⟨m-1,by omega,j+1,tok,G'++[y],_,_,_,rfl,by omega,by omega,by simp,by rw [hfil];simp;omega,?_,Nat.le_refl _,hfm3.trans (Fm.put _ _ rfl),rfl,rfl,by rw [hfil];simp [lk],rfl⟩
      rw [hfil,g_put_eq,hg3,hdrp]
      simp
   ·have hjl:j=L.length:=by omega
    subst hjl
    rw [List.take_length,List.drop_length,List.append_nil] at hg2
    rw [List.take_length] at hGl e5
    have i3:=sliceLo (n:=L.length) (m:=(L.filter fun x=>!p x).length) hg2 hlw2 h0 (by omega)
    have hne:L.length-(L.filter fun x=>!p x).length≠0:=by
     cases G with
     | nil=>exact absurd rfl hG
     | cons a G=>simp at hGl;omega
    have c1:∀ lc,clearV ⟨[],lc,h2⟩ sz zero _=_:=fun lc=>clear_ok (zero:=zero) (lc:=lc) (off:=(L.filter fun x=>!p x).length) hg2 hne
    have hg4:(h2.put id (.rows true sz tok tok (spliceRows (((L.filter fun x=>!p x)++G).map enc++rs.drop L.length) (L.filter fun x=>!p x).length (List.replicate (L.length-(L.filter fun x=>!p x).length) zero)))).g id=some (.rows true sz tok tok (spliceRows (((L.filter fun x=>!p x)++G).map enc++rs.drop L.length) (L.filter fun x=>!p x).length (List.replicate (L.length-(L.filter fun x=>!p x).length) zero))):=by rw [g_put_eq,hg2];rfl
    have i4:=sliceHi (n:=L.length) (m:=(L.filter fun x=>!p x).length) hg4 (Nat.le_refl _) h0 (by omega)
    simp only [KK,ne_eq,↓reduceIte,reduceLT,reduceEqDiff,reduceAdd,reduceLeDiff,reduceSub,reduceMul,reduceCtorEq,e0,e1,e5,e6,hlen,hlt,i3,c1,i4]
    refine hP _ _ ⟨rfl,rfl,tok,_,hg4,Nat.le_refl _,?_,?_⟩ (hfm2.trans (Fm.put _ _ rfl)) (fun j hj=>hj)
    ·unfold spliceRows
     simp
    ·unfold spliceRows
     have e1:(((L.filter fun x=>!p x)++G).map enc++rs.drop L.length).take (L.filter fun x=>!p x).length=(L.filter fun x=>!p x).map enc:=by
      rw [List.map_append,List.append_assoc]
      have e2:(L.filter fun x=>!p x).length=((L.filter fun x=>!p x).map enc).length:=by simp
      rw [e2,List.take_left']
      rfl
     rw [e1,List.append_assoc]
     have e2:(L.filter fun x=>!p x).length=((L.filter fun x=>!p x).map enc).length:=by simp
     rw [e2,List.take_left']
     rfl
end
end
section
set_option maxHeartbeats 4000000
theorem Fm.comp {S T:Nat→Prop} {a b c:Hp} (h:Fm S a b) (k:Fm T b c) (hT:∀ j,j<a.n→T j→S j):Fm S a c:=
 ⟨Nat.le_trans h.n k.n,fun j hj hS=>(k.g j (Nat.lt_of_lt_of_le hj h.n) fun h'=>hS (hT j hj h')).trans (h.g j hj hS)⟩
section
variable {c:CallW} {n:Nat} {l:List (Nat × TV)} {lc:List (List CV)} {h:Hp} {P:St→Prop}
end
end
section
set_option maxHeartbeats 4000000
def fz (c:CallW) (ops:List NR) (Q:Ex→St→Prop):Ex→St→Prop
 | .exit _,_=>False
 | _,s=>runW c ops s (Q .ret)
section
variable {c:CallW} {ops:List NR} {Q:Ex→St→Prop} {b:Code} {s:St}
theorem a_fin:awp c (.fin b ops) s Q=awp c b s (fz c ops Q):=by
 simp only [awp]
 congr 1
 funext e s'
 cases e <;> simp [fz]
@[congr] theorem fz_congr {e:Ex} {s s':St} {dy:Nat} (dd:dum=dy) (h:s=s'):fz c ops Q e s=fz c ops Q e s':=by rw [h]
theorem fz_r:fz c ops Q .ret s=runW c ops s (Q .ret):=rfl
end
def CapL (v:CV):Prop:=∀ id tok off len c,v = .sl id tok off len (some c)→len≤c
theorem SL.first {h:Hp} {sz:Nat} {v:CV} {rows:List (List CV)} (k:SL h sz v rows) (hc:CapL v) (h0:0<sz) {m:Int} (hm:0≤m∧m≤rows.length) :
 ∃ v',sliceT h sz (.v (.c v)) none (some m) none=some v'∧SL h sz v' (rows.take m.toNat):=by
 cases v <;> simp only [SL] at k
 case nils=>
  subst k
  have:m=0:=by simp at hm;omega
  subst this
  exact ⟨.nils,by simp [sliceT,sliceV,h0],by simp [SL]⟩
 case sl id tok off len cap=>
  obtain ⟨wr,cur,lw,rs,h1,h2,h3,rfl⟩:=k
  rw [List.length_take,List.length_drop] at hm
  have hcl:len≤cap.getD len:=by
   cases cap with
   | none=>exact Nat.le_refl _
   | some c=>exact hc _ _ _ _ _ rfl
  refine ⟨.sl id tok off m.toNat (cap.map (· - 0)),?_,?_⟩
  ·simp only [sliceT,sliceV,g_def,h1]
   rw [if_pos ⟨h0,trivial,h2⟩]
   unfold sliceB
   rw [if_pos]
   ·simp
   ·simp;omega
  ·refine ⟨wr,cur,lw,rs,h1,h2,by omega,?_⟩
   rw [List.take_take,Nat.min_eq_left (by omega)]
structure Ents (kt:KT) (es:List ME) (clock:Nat):Prop where
 keys:∀ e∈es,okKey kt e.key=true
 uniq:List.Pairwise (fun a b:ME=>a.key≠b.key) es
 lt:∀ e∈es,e.born<clock
 nd:(es.map (·.born)).Nodup
theorem Ents.nil (kt:KT) (clock:Nat):Ents kt [] clock:=⟨by simp,List.Pairwise.nil,by simp,by simp⟩
end
section
section
variable {α:Type}
theorem some_at {L:List α} {i:Nat} (h:i<L.length):∃ x,L[i]? = some x:=⟨_,List.getElem?_eq_getElem h⟩
theorem lt_at {L:List α} {i:Nat} {x:α} (h:L[i]? = some x):i<L.length:=(List.getElem?_eq_some_iff.mp h).1
structure Sh (a b:Nat) (L T:List α):Prop where
 perm:T.Perm L
 out:∀ i,i<a∨b≤i→T[i]? = L[i]?
theorem Sh.len {a b:Nat} {L T:List α} (h:Sh a b L T):T.length=L.length:=h.perm.length_eq
theorem Sh.refl (a b:Nat) (L:List α):Sh a b L L:=⟨List.Perm.refl _,fun _ _=>rfl⟩
theorem Sh.trans {a b:Nat} {L T U:List α} (h:Sh a b L T) (k:Sh a b T U):Sh a b L U:=⟨k.perm.trans h.perm,fun i hi=>(k.out i hi).trans (h.out i hi)⟩
theorem Sh.mono {a b a' b':Nat} {L T:List α} (h:Sh a b L T) (h1:a'≤a) (h2:b≤b'):Sh a' b' L T:=⟨h.perm,fun i hi=>h.out i (by omega)⟩
theorem Sh.mem {a b:Nat} {L T:List α} (h:Sh a b L T) {i:Nat} {x:α} (h1:a≤i) (h2:i<b) (hx:T[i]? = some x):∃ j,a≤j∧j<b∧L[j]? = some x:=by
 have e1:T.take a=L.take a:=by
  apply List.ext_getElem?
  intro k
  rw [List.getElem?_take,List.getElem?_take]
  split
  ·exact h.out k (.inl ‹_›)
  ·rfl
 have e2:T.drop b=L.drop b:=by
  apply List.ext_getElem?
  intro k
  rw [List.getElem?_drop,List.getElem?_drop]
  exact h.out _ (.inr (by omega))
 have split3:∀ M:List α,M=M.take a++((M.drop a).take (b-a)++M.drop b):=by
  intro M
  have:(M.drop a).drop (b-a)=M.drop b:=by rw [List.drop_drop];congr 1;omega
  rw [←this,List.take_append_drop,List.take_append_drop]
 have hp:=h.perm
 rw [split3 T,split3 L,e1,e2] at hp
 have hp2:=(List.perm_append_right_iff _).mp ((List.perm_append_left_iff _).mp hp)
 have hm:x∈(T.drop a).take (b-a):=List.mem_of_getElem? (i:=i-a) (by rw [List.getElem?_take,if_pos (by omega),List.getElem?_drop,show a+(i-a)=i by omega];exact hx)
 obtain ⟨j,hj⟩:=List.getElem?_of_mem (hp2.mem_iff.mp hm)
 rw [List.getElem?_take] at hj
 split at hj
 ·rw [List.getElem?_drop] at hj
  exact ⟨a+j,by omega,by omega,hj⟩
 ·cases hj
structure SWO (lt:α→α→Prop):Prop where
 irr:∀ x,¬lt x x
 tr:∀ {x y z},lt x y→lt y z→lt x z
 le:∀ {x y z},¬lt y x→¬lt z y→¬lt z x
variable {lt:α→α→Prop}
def lex (lt:α→α→Prop) (L:List α) (i j:Nat):Prop:=∀ x y,L[i]? = some x→L[j]? = some y→¬lt y x
def Srt (lt:α→α→Prop) (L:List α) (a b c d:Nat):Prop:=∀ i j,a≤i→i<j→j<b→(c≤i∧j<d)∨lex lt L i j
theorem lex.trans (o:SWO lt) {L:List α} {i j k:Nat} (h:lex lt L i j) (h2:lex lt L j k) (hj:j<L.length):lex lt L i k:=by
 intro x z hx hz
 obtain ⟨y,hy⟩:=some_at hj
 exact o.le (h x y hx hy) (h2 y z hy hz)
theorem lex.eq {L T:List α} {i j i' j':Nat} (h:lex lt L i' j') (h1:T[i]? = L[i']?) (h2:T[j]? = L[j']?):lex lt T i j:=fun x y hx hy=>h x y (h1▸hx) (h2▸hy)
theorem lex.refl (o:SWO lt) (L:List α) (i:Nat):lex lt L i i:=fun x y hx hy=>by
 rw [hx] at hy
 obtain rfl:=Option.some.inj hy
 exact o.irr _
theorem Srt.fill {L:List α} {a b c d:Nat} (h:Srt lt L a b c d) (k:Srt lt L c d c c):Srt lt L a b a a:=by
 intro i j h1 h2 h3
 rcases h i j h1 h2 h3 with e|e
 ·rcases k i j e.1 h2 e.2 with e'|e'
  ·omega
  ·exact .inr e'
 ·exact .inr e
theorem Srt.list {L:List α} {n:Nat} (h:Srt lt L 0 L.length n n):L.Pairwise fun x y=>¬lt y x:=by
 rw [List.pairwise_iff_getElem]
 intro i j hi hj hij
 rcases h i j (by omega) hij hj with e|e
 ·omega
 ·exact e _ _ (List.getElem?_eq_getElem hi) (List.getElem?_eq_getElem hj)
end
def Ar {α:Type} (enc:α→List CV) (sz:Nat) (h:Hp) (id tok:Nat) (rest:List (List CV)) (L:List α):Prop:=∃ lw,lw≤tok∧h.g id=some (.rows true sz tok lw (L.map enc++rest))
section
variable {α:Type} {enc:α→List CV} {sz id tok:Nat} {rest:List (List CV)} {h:Hp} {L:List α}
theorem Ar.mono {S:Nat→Prop} {h':Hp} (k:Ar enc sz h id tok rest L) (f:Fm S h h') (hS:¬S id):Ar enc sz h' id tok rest L:=by
 obtain ⟨lw,h1,h2⟩:=k
 exact ⟨lw,h1,f.some h2 hS⟩
theorem Ar.lt (k:Ar enc sz h id tok rest L):id<h.n:=by
 obtain ⟨lw,h1,h2⟩:=k
 exact lt_of_g h2
theorem Ar.adr (k:Ar enc sz h id tok rest L) {n m:Nat} (hm:m<n) (c:Option Nat):iaddrT h sz (.v (.c (.sl id tok 0 n c))) (m:Int)=some (.v (.c (.ptr id tok m 0))):=by
 obtain ⟨lw,h1,h2⟩:=k
 have:=iaS (n:=n) (i:=(m:Int)) h2 h1 (by omega) c
 rwa [Int.toNat_natCast] at this
theorem Ar.row (k:Ar enc sz h id tok rest L) {m:Nat} {x:α} (hx:L[m]? = some x):rowO (h.g id) tok m=some (enc x):=by
 obtain ⟨lw,h1,h2⟩:=k
 have:=lt_at hx
 rw [h2,rowO_some,if_pos h1,List.getElem?_append_left (by rw [List.length_map];exact this),List.getElem?_map,hx]
 rfl
theorem Ar.put (k:Ar enc sz h id tok rest L) (henc:∀ x,(enc x).length=sz) {m:Nat} (hm:m<L.length) (y:α) :
 ∃ h',(∀ lc,storeO (h.g id) h lc sz id tok m 0 (enc y)=some ⟨.un,lc,h'⟩)∧Ar enc sz h' id tok rest (L.set m y)∧Fm (fun j=>j=id) h h'∧h'.n=h.n:=by
 obtain ⟨lw,h1,h2⟩:=k
 refine ⟨h.put id (.rows true sz tok tok ((L.set m y).map enc++rest)),fun lc=>?_,⟨tok,Nat.le_refl _,by rw [g_put_eq,h2];rfl⟩,Fm.put _ _ rfl,n_put _ _ _⟩
 rw [h2,storeO_some,if_pos ⟨rfl,rfl⟩,List.getElem?_append_left (by rw [List.length_map];exact hm),List.getElem?_map,List.getElem?_eq_getElem hm]
 simp only [Option.map_some,Option.bind_some,henc]
 rw [if_pos (by omega)]
 congr 3
 have hs:splice (enc L[m]) 0 (enc y)=enc y:=by
  rw [splice_def,List.take_zero,List.nil_append,henc,Nat.zero_add,List.drop_of_length_le (by rw [henc];exact Nat.le_refl _),List.append_nil]
 rw [hs,List.set_append_left _ _ (by rw [List.length_map];exact hm),List.map_set]
end
end
section
set_option maxHeartbeats 4000000
def Gw (new:Bool) (h:Hp) (sz:Nat):CV→List (List CV)→Prop
 | .nils,rows=>rows=[]
 | .sl id tok off len cap,rows=>off=0∧cap=none∧
  ((∃ cur lw rs,h.g id=some (.rows true sz cur lw rs)∧lw≤tok∧len≤rs.length∧((tok=cur∧len=rs.length)∨(new=false∧tok<cur∧len<rs.length))∧rows=rs.take len)∨
   ∃ vs rs,h.g id=some (.grow sz vs)∧vs[tok]? = some (some rs)∧len≤rs.length∧rows=rs.take len)
 | _,_=>False
section
variable {h:Hp} {sz:Nat} {v:CV} {rows:List (List CV)} {lc:List (List CV)} {new:Bool}
theorem Gw.old (k:Gw new h sz v rows):Gw false h sz v rows:=by
 cases v <;> simp only [Gw] at k ⊢
 case nils=>exact k
 case sl id tok off len cap=>
  obtain ⟨rfl,rfl,⟨cur,lw,rs,h1,h2,h3,h4,h5⟩|k⟩:=k
  ·exact ⟨rfl,rfl,.inl ⟨cur,lw,rs,h1,h2,h3,h4.imp (fun e=>e) (fun e=>⟨trivial,e.2⟩),h5⟩⟩
  ·exact ⟨rfl,rfl,.inr k⟩
theorem Gw.mono {S:Nat→Prop} {h':Hp} (k:Gw new h sz v rows) (f:Fm S h h') (hS:∀ j,ownId v j→¬S j):Gw new h' sz v rows:=by
 cases v <;> simp only [Gw] at k ⊢
 case nils=>exact k
 case sl id tok off len cap=>
  obtain ⟨rfl,rfl,⟨cur,lw,rs,h1,h2⟩|⟨vs,rs,h1,h2⟩⟩:=k
  ·exact ⟨rfl,rfl,.inl ⟨cur,lw,rs,f.some h1 (hS _ rfl),h2⟩⟩
  ·exact ⟨rfl,rfl,.inr ⟨vs,rs,f.some h1 (hS _ rfl),h2⟩⟩
theorem Gw.lt (k:Gw new h sz v rows) {j:Nat} (hj:ownId v j):j<h.n:=by
 cases v <;> simp only [ownId] at hj
 case sl id tok off len cap=>
  obtain ⟨_,_,⟨cur,lw,rs,h1,_⟩|⟨vs,rs,h1,_⟩⟩:=k <;> (subst hj;exact lt_of_g h1)
theorem Gw.len (k:Gw new h sz v rows) (h':Hp):lenT h' .sl (.v (.c v))=some (rows.length:Int):=by
 cases v <;> simp only [Gw] at k
 case nils=>subst k;rfl
 case sl id tok off len cap=>
  obtain ⟨rfl,rfl,⟨cur,lw,rs,h1,h2,h3,h4,rfl⟩|⟨vs,rs,h1,h2,h3,rfl⟩⟩:=k <;>
  ·simp only [lenT,lenV,if_true,List.length_take]
   congr 1
   omega
theorem Gw.at (k:Gw new h sz v rows) {i:Int} {r:List CV} (h0:0≤i) (hr:rows[i.toNat]? = some r):∃ id tok j,iaddrT h sz (.v (.c v)) i=some (.v (.c (.ptr id tok j 0)))∧rowO (h.g id) tok j=some r:=by
 cases v <;> simp only [Gw] at k
 case nils=>subst k;simp at hr
 case sl id tok off len cap=>
  have hi:∀ {rs:List (List CV)},rows=rs.take len→i.toNat<len∧rs[i.toNat]? = some r:=by
   rintro rs rfl
   rw [List.getElem?_take] at hr
   split at hr
   ·exact ⟨‹_›,hr⟩
   ·cases hr
  obtain ⟨rfl,rfl,⟨cur,lw,rs,h1,h2,h3,h4,h5⟩|⟨vs,rs,h1,h2,h3,h5⟩⟩:=k
  ·obtain ⟨q1,q2⟩:=hi h5
   refine ⟨id,tok,0+i.toNat,?_,?_⟩
   ·simp only [iaddrT,iaddrV,g_def,h1]
    rw [if_pos ⟨trivial,h2,h0,by omega⟩]
   ·rw [h1,rowO_some,if_pos h2,Nat.zero_add,q2]
  ·obtain ⟨q1,q2⟩:=hi h5
   refine ⟨id,tok,0+i.toNat,?_,?_⟩
   ·simp only [iaddrT,iaddrV,g_def,h1,h2]
    rw [if_pos ⟨trivial,h0,by omega⟩]
   ·rw [h1]
    simp only [rowO,h2]
    rw [Nat.zero_add,q2]
theorem Gw.sv (k:Gw new h sz v rows):Sv h sz v rows:=⟨k.len,fun h' i r f h0 hr=>(k.mono f (fun _ _ e=>e)).at h0 hr⟩
theorem growVs_self {vs:List (Option (List (List CV)))} {e:Nat} {new:List (List CV)}:(growVs vs e new)[vs.length]? = some (some new):=by
 simp [growVs]
theorem growVs_at {vs:List (Option (List (List CV)))} {e t:Nat} {new rs:List (List CV)} (h:vs[t]? = some (some rs)):(growVs vs e new)[t]? = some (some (rs.take e)):=by
 have:t<vs.length:=by
  rcases Nat.lt_or_ge t vs.length with h'|h'
  ·exact h'
  ·rw [List.getElem?_eq_none h'] at h;cases h
 rw [growVs,List.getElem?_append_left (by rw [List.length_map];exact this),List.getElem?_map,h]
 rfl
theorem Gw.app (k:Gw new h sz v rows) {x:TV} {xs:List (List CV)} (hx:sliceRows h lc sz x=some xs) (hne:xs≠[]) {bytes:Nat} (hb:(rows.length+xs.length) * bytes≤room) :
 ∃ v' h',appT h lc sz bytes (.v (.c v)) x=some (v',h')∧Gw true h' sz v' (rows++xs)∧Gw false h' sz v rows∧(new=true→∀ b u R,Gw b h sz u R→R.length≤rows.length→Gw false h' sz u R)∧Fm (ownId v) h h'∧(∀ j,ownId v' j→ownId v j∨h.n≤j):=by
 cases xs with
 | nil=>exact absurd rfl hne
 | cons y ys=>
  cases v <;> simp only [Gw] at k
  case nils=>
   subst k
   have hb':(y::ys).length * bytes≤room:=by simpa using hb
   have hf:Fm (ownId CV.nils) h (h.push (.rows true sz 0 0 (y::ys))):=Fm.push _ _ _
   refine ⟨.sl h.n 0 0 (y::ys).length none,h.push (.rows true sz 0 0 (y::ys)),?_,?_,rfl,?_,hf,?_⟩
   ·simp only [appT,asC,hx,Option.bind_some,appRows]
    rw [if_pos hb']
    rfl
   ·refine ⟨rfl,rfl,.inl ⟨0,0,y::ys,by rw [g_push_eq],Nat.le_refl _,Nat.le_refl _,.inl ⟨rfl,rfl⟩,by simp⟩⟩
   ·intro _ b u R hu hR
    exact (hu.mono hf (fun _ _ e=>e)).old
   ·intro j hj
    exact .inr (Nat.le_of_eq hj.symm)
  case sl id tok off len cap=>
   obtain ⟨rfl,rfl,⟨cur,lw,rs,h1,h2,h3,h4,rfl⟩|⟨vs,rs,h1,h2,h3,rfl⟩⟩:=k
   ·have hid:=lt_of_g h1
    have hl:(rs.take len).length=len:=by simp;omega
    rw [hl] at hb
    rcases h4 with ⟨rfl,rfl⟩|⟨rfl,h5,h6⟩
    ·
     obtain ⟨h',hh'⟩:∃ h',h'=h.put id (.rows true sz (tok+1) lw (rs++y::ys)):=⟨_,rfl⟩
     have hg':h'.g id=some (.rows true sz (tok+1) lw (rs++y::ys)):=by rw [hh',g_put_eq,h1];rfl
     have hf:Fm (ownId (.sl id tok 0 rs.length none)) h h':=by rw [hh'];exact Fm.put _ _ rfl
     have keep:∀ b u R,Gw b h sz u R→Gw false h' sz u R:=by
      intro b u R hu
      cases u <;> simp only [Gw] at hu
      case nils=>exact hu
      case sl id2 tok2 off2 len2 cap2=>
       by_cases hi:id2=id
       ·subst hi
        obtain ⟨rfl,rfl,⟨cur',lw',rs',g1,g2,g3,g4,rfl⟩|⟨vs,rs',g1,_⟩⟩:=hu
        ·rw [h1] at g1
         injection g1 with g1
         injection g1 with _ _ e1 e2 e3
         subst e1 e2 e3
         exact ⟨rfl,rfl,.inl ⟨_,_,_,hg',g2,by rw [List.length_append];omega,.inr ⟨rfl,by omega,by rw [List.length_append,List.length_cons];omega⟩,by rw [List.take_append_of_le_length g3]⟩⟩
        ·rw [h1] at g1;cases g1
       ·have:=Gw.mono (v:=.sl id2 tok2 off2 len2 cap2) hu hf (by rintro j hj e;exact hi (hj.symm.trans e))
        exact this.old
     refine ⟨.sl id (tok+1) 0 (rs.length+(y::ys).length) none,h',?_,?_,keep true _ _ ⟨rfl,rfl,.inl ⟨_,_,_,h1,h2,h3,.inl ⟨rfl,rfl⟩,rfl⟩⟩,fun _ b u R hu _=>keep b u R hu,hf,fun j hj=>.inl hj⟩
     ·rw [hh']
      simp only [appT,asC,hx,Option.bind_some,appRows,g_def,h1]
      rw [if_pos ⟨trivial,h2,hb⟩,if_pos trivial,if_neg (by omega),Nat.zero_add,if_neg (fun e=>by have:=e.2;simp only [List.length_cons] at this;omega),if_pos rfl,List.take_length]
     ·refine ⟨rfl,rfl,.inl ⟨tok+1,lw,rs++y::ys,hg',by omega,by rw [List.length_append];exact Nat.le_refl _,.inl ⟨rfl,by rw [List.length_append]⟩,?_⟩⟩
      rw [List.take_length,←List.length_append,List.take_length]
    ·
     obtain ⟨h',hh'⟩:∃ h',h'=h.put id (.grow sz (growVs (oneV cur tok (rs.take len)) len (rs.take len++y::ys))):=⟨_,rfl⟩
     have hg':h'.g id=some (.grow sz (growVs (oneV cur tok (rs.take len)) len (rs.take len++y::ys))):=by rw [hh',g_put_eq,h1];rfl
     have hf:Fm (ownId (.sl id tok 0 len none)) h h':=by rw [hh'];exact Fm.put _ _ rfl
     have ho:(oneV cur tok (rs.take len))[tok]? = some (some (rs.take len)):=by
      unfold oneV
      rw [List.getElem?_set,if_pos rfl,if_pos (by simp;omega)]
     have hol:(oneV cur tok (rs.take len)).length=cur+1:=by simp [oneV]
     refine ⟨.sl id (cur+1) 0 (len+(y::ys).length) none,h',?_,?_,?_,by simp,hf,fun j hj=>.inl hj⟩
     ·rw [hh']
      simp only [appT,asC,hx,Option.bind_some,appRows,g_def,h1]
      rw [if_pos ⟨trivial,h2,hb⟩,if_pos trivial,if_pos ⟨h5,trivial,h6⟩]
     ·refine ⟨rfl,rfl,.inr ⟨_,rs.take len++y::ys,hg',?_,by rw [List.length_append,hl];exact Nat.le_refl _,?_⟩⟩
      ·rw [←hol]
       exact growVs_self
      ·exact (List.take_of_length_le (by rw [List.length_append,hl];exact Nat.le_refl _)).symm
     ·refine ⟨rfl,rfl,.inr ⟨_,(rs.take len).take len,hg',growVs_at ho,by rw [List.take_take,Nat.min_self,hl];exact Nat.le_refl _,by rw [List.take_take,List.take_take,Nat.min_self,Nat.min_self]⟩⟩
   ·have hid:=lt_of_g h1
    have hl:(rs.take len).length=len:=by simp;omega
    rw [hl] at hb
    obtain ⟨h',hh'⟩:∃ h',h'=h.put id (.grow sz (growVs vs len (rs.take len++y::ys))):=⟨_,rfl⟩
    have hg':h'.g id=some (.grow sz (growVs vs len (rs.take len++y::ys))):=by rw [hh',g_put_eq,h1];rfl
    have hf:Fm (ownId (.sl id tok 0 len none)) h h':=by rw [hh'];exact Fm.put _ _ rfl
    have keep:∀ b u R,Gw b h sz u R→R.length≤len→Gw false h' sz u R:=by
     intro b u R hu hR
     cases u <;> simp only [Gw] at hu
     case nils=>exact hu
     case sl id2 tok2 off2 len2 cap2=>
      by_cases hi:id2=id
      ·subst hi
       obtain ⟨rfl,rfl,⟨cur',lw',rs',g1,_⟩|⟨vs',rs',g1,g2,g3,rfl⟩⟩:=hu
       ·rw [h1] at g1;cases g1
       ·rw [h1] at g1
        injection g1 with g1
        injection g1 with _ e1
        subst e1
        have h7:len2≤len:=by rw [List.length_take] at hR;omega
        exact ⟨rfl,rfl,.inr ⟨_,rs'.take len,hg',growVs_at g2,by rw [List.length_take];omega,by rw [List.take_take,Nat.min_eq_left h7]⟩⟩
      ·have:=Gw.mono (v:=.sl id2 tok2 off2 len2 cap2) hu hf (by rintro j hj e;exact hi (hj.symm.trans e))
       exact this.old
    refine ⟨.sl id vs.length 0 (len+(y::ys).length) none,h',?_,?_,keep true _ _ ⟨rfl,rfl,.inr ⟨_,_,h1,h2,h3,rfl⟩⟩ (by rw [hl];exact Nat.le_refl _),fun _ b u R hu hR=>keep b u R hu (by rw [hl] at hR;exact hR),hf,fun j hj=>.inl hj⟩
    ·rw [hh']
     simp only [appT,asC,hx,Option.bind_some,appRows,g_def,h1]
     rw [if_pos ⟨trivial,trivial,trivial,hb⟩]
     simp only [h2]
     rw [if_pos h3]
    ·refine ⟨rfl,rfl,.inr ⟨_,rs.take len++y::ys,hg',growVs_self,by rw [List.length_append,hl];exact Nat.le_refl _,?_⟩⟩
     exact (List.take_of_length_le (by rw [List.length_append,hl];exact Nat.le_refl _)).symm
end
end
end Camp
