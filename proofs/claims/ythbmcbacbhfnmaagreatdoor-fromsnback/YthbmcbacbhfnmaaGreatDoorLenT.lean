/- Part of FromsnBack: the law returns true; no condition. -/
import Derived.Test.YthbmcbacbhfnmaaGreatDoorRegE
import Derived.Test.YthbmcbacbhfnmaaGreatDoorChks
import Derived.Test.YthbmcbacbhfnmaaGreatDoorAvClosed4
import Derived.Test.YthbmcbacbhfnmaaGreatDoorAvSelf
import Derived.Shelf.SlGeneric
import Derived.Shelf.SlIter.Nil
import Derived.Shelf.SortM.Plain
import Derived.Shelf.SortM.SortNone
import Derived.Ground.GgzProg
import Derived.Ground.SlgmProg
import Derived.Test.YthbmcbacbhfnmaaGreatDoorProg
import Derived.Test.YthbmcbacbhfnmaaGreatDoorLaySort
import Derived.Test.YthbmcbacbhfnmaaGreatDoorTpTopC
import Derived.KernelRfl
import Derived.Sort.Walk0
set_option linter.all false
namespace Go.Av
noncomputable section
open Go.Proofs
attribute [local irreducible] Q5j Wz Qq Qaj Qa1 Q0
set_option maxHeartbeats 1000000
variable {Gl:Nat->Option (List PV)}
section
variable {R:Reg} {c:List UInt8} {i:Nat} {C:RCl}
end
end
end Go.Av
namespace Go.Av
noncomputable section
set_option maxHeartbeats 4000000
section
variable {P:Program} {Gl:Nat->Option (List PV)}
end
end
end Go.Av
namespace Go.Proofs
open Go.Shelf
def Tryz.lkeys_ren:Go.Shelf.Ren:=⟨fun | 7=>56 | 10=>95 | n=>n,fun | 23=>125 | 26=>9 | 3=>102 | 28=>123 | 0=>0 | 27=>122 | 33=>137 | 4=>4 | n=>n,fun | n=>n⟩
def Tryz.lkeys:Go.Proofs.SlLaysZ.n7 Tryz.prog Tryz.lkeys_ren := {
 mixed:=by kernel_rfl
 f7:=⟨Tryz.f56.name,by decide,Tryz.func56.trans (congrArg some (by kernel_rfl))⟩
 f10:=⟨Tryz.f95.name,by decide,Tryz.func95.trans (congrArg some (by kernel_rfl))⟩
 t0:=Tryz.underlying0
 a0:=Tryz.isAgg0
 z0:=Tryz.sizeOf0
 v0:=Tryz.zeroValue0
 t4:=Tryz.underlying4
 a4:=Tryz.isAgg4
 z4:=Tryz.sizeOf4
 v4:=Tryz.zeroValue4
 t23:=Tryz.underlying125
 a23:=Tryz.isAgg125
 z23:=Tryz.sizeOf125
 v23:=Tryz.zeroValue125
 t26:=Tryz.underlying9
 a26:=Tryz.isAgg9
 z26:=Tryz.sizeOf9
 v26:=Tryz.zeroValue9
 t27:=Tryz.underlying122
 a27:=Tryz.isAgg122
 z27:=Tryz.sizeOf122
 v27:=Tryz.zeroValue122
 t28:=Tryz.underlying123
 a28:=Tryz.isAgg123
 z28:=Tryz.sizeOf123
 v28:=Tryz.zeroValue123
 t33:=Tryz.underlying137
 a33:=Tryz.isAgg137
 z33:=Tryz.sizeOf137
 v33:=Tryz.zeroValue137 }
def Tryz.lsorted_ren:Go.Shelf.Ren:=⟨fun | 6=>55 | 8=>93 | 9=>94 | 11=>157 | 13=>91 | 12=>158 | 23=>155 | 24=>156 | 14=>201 | 15=>202 | 16=>203 | 17=>204 | 18=>205 | 19=>206 | 20=>207 | 21=>208 | 22=>209 | 25=>267 | 26=>197 | 27=>198 | 28=>268 | 29=>269 | 30=>270 | 31=>341 | n=>n,fun | 26=>9 | 28=>123 | 24=>68 | 0=>0 | 3=>3 | 37=>170 | 48=>128 | 50=>134 | 4=>4 | 40=>200 | 39=>199 | 45=>91 | 5=>5 | 9=>9 | 51=>236 | 55=>240 | 57=>291 | 58=>253 | 33=>137 | n=>n,fun | n=>n⟩
def Tryz.lsorted:Go.Proofs.SlLaysZ.n6 Tryz.prog Tryz.lsorted_ren := {
 mixed:=by kernel_rfl
 f6:=⟨Tryz.f55.name,by decide,Tryz.func55.trans (congrArg some (by kernel_rfl))⟩
 f8:=⟨Tryz.f93.name,by decide,Tryz.func93.trans (congrArg some (by kernel_rfl))⟩
 f11:=⟨Tryz.f157.name,by decide,Tryz.func157.trans (congrArg some (by kernel_rfl))⟩
 t0:=Tryz.underlying0
 a0:=Tryz.isAgg0
 z0:=Tryz.sizeOf0
 v0:=Tryz.zeroValue0
 t24:=Tryz.underlying68
 a24:=Tryz.isAgg68
 z24:=Tryz.sizeOf68
 v24:=Tryz.zeroValue68
 t26:=Tryz.underlying9
 a26:=Tryz.isAgg9
 z26:=Tryz.sizeOf9
 v26:=Tryz.zeroValue9
 t28:=Tryz.underlying123
 a28:=Tryz.isAgg123
 z28:=Tryz.sizeOf123
 v28:=Tryz.zeroValue123
 i26:=by kernel_rfl }
def Tryz.lssort_ren:Go.Shelf.Ren:=⟨fun | 6=>94 | 8=>91 | 9=>158 | 19=>155 | 20=>156 | 21=>201 | 22=>202 | 23=>203 | 24=>204 | 25=>205 | 26=>206 | 27=>207 | 28=>208 | 29=>209 | 36=>267 | 31=>197 | 32=>198 | 37=>268 | 38=>269 | 39=>270 | 41=>341 | n=>n,fun | 27=>68 | 29=>9 | 3=>3 | 32=>170 | 26=>68 | 0=>0 | 44=>128 | 46=>134 | 4=>4 | 36=>200 | 35=>199 | 41=>91 | 5=>5 | 9=>9 | 53=>236 | 57=>240 | 63=>291 | 64=>253 | n=>n,fun | n=>n⟩
def Tryz.lssort:Go.Proofs.SlLaysM.n6 Tryz.prog Tryz.lssort_ren := {
 mixed:=by kernel_rfl
 f6:=⟨Tryz.f94.name,by decide,Tryz.func94.trans (congrArg some (by kernel_rfl))⟩
 f8:=Tryz.func91.trans (congrArg some (by kernel_rfl))
 f9:=⟨Tryz.f158.name,by decide,Tryz.func158.trans (congrArg some (by kernel_rfl))⟩
 f19:=Tryz.func155.trans (congrArg some (by kernel_rfl))
 f20:=Tryz.func156.trans (congrArg some (by kernel_rfl))
 f21:=⟨Tryz.f201.name,by decide,Tryz.func201.trans (congrArg some (by kernel_rfl))⟩
 f22:=⟨Tryz.f202.name,by decide,Tryz.func202.trans (congrArg some (by kernel_rfl))⟩
 f23:=⟨Tryz.f203.name,by decide,Tryz.func203.trans (congrArg some (by kernel_rfl))⟩
 f24:=⟨Tryz.f204.name,by decide,Tryz.func204.trans (congrArg some (by kernel_rfl))⟩
 f25:=⟨Tryz.f205.name,by decide,Tryz.func205.trans (congrArg some (by kernel_rfl))⟩
 f26:=⟨Tryz.f206.name,by decide,Tryz.func206.trans (congrArg some (by kernel_rfl))⟩
 f27:=⟨Tryz.f207.name,by decide,Tryz.func207.trans (congrArg some (by kernel_rfl))⟩
 f28:=⟨Tryz.f208.name,by decide,Tryz.func208.trans (congrArg some (by kernel_rfl))⟩
 f29:=⟨Tryz.f209.name,by decide,Tryz.func209.trans (congrArg some (by kernel_rfl))⟩
 f31:=Tryz.func197.trans (congrArg some (by kernel_rfl))
 f32:=Tryz.func198.trans (congrArg some (by kernel_rfl))
 f36:=⟨Tryz.f267.name,by decide,Tryz.func267.trans (congrArg some (by kernel_rfl))⟩
 f37:=⟨Tryz.f268.name,by decide,Tryz.func268.trans (congrArg some (by kernel_rfl))⟩
 f38:=⟨Tryz.f269.name,by decide,Tryz.func269.trans (congrArg some (by kernel_rfl))⟩
 f39:=⟨Tryz.f270.name,by decide,Tryz.func270.trans (congrArg some (by kernel_rfl))⟩
 f41:=⟨Tryz.f341.name,by decide,Tryz.func341.trans (congrArg some (by kernel_rfl))⟩
 t0:=Tryz.underlying0
 a0:=Tryz.isAgg0
 z0:=Tryz.sizeOf0
 v0:=Tryz.zeroValue0
 t3:=Tryz.underlying3
 a3:=Tryz.isAgg3
 z3:=Tryz.sizeOf3
 v3:=Tryz.zeroValue3
 t4:=Tryz.underlying4
 a4:=Tryz.isAgg4
 z4:=Tryz.sizeOf4
 v4:=Tryz.zeroValue4
 t5:=Tryz.underlying5
 a5:=Tryz.isAgg5
 z5:=Tryz.sizeOf5
 v5:=Tryz.zeroValue5
 t9:=Tryz.underlying9
 a9:=Tryz.isAgg9
 z9:=Tryz.sizeOf9
 v9:=Tryz.zeroValue9
 t26:=Tryz.underlying68
 a26:=Tryz.isAgg68
 z26:=Tryz.sizeOf68
 v26:=Tryz.zeroValue68
 t27:=Tryz.underlying68
 a27:=Tryz.isAgg68
 z27:=Tryz.sizeOf68
 v27:=Tryz.zeroValue68
 t29:=Tryz.underlying9
 a29:=Tryz.isAgg9
 z29:=Tryz.sizeOf9
 v29:=Tryz.zeroValue9
 t32:=Tryz.underlying170
 a32:=Tryz.isAgg170
 z32:=Tryz.sizeOf170
 v32:=Tryz.zeroValue170
 t35:=Tryz.underlying199
 a35:=Tryz.isAgg199
 z35:=Tryz.sizeOf199
 v35:=Tryz.zeroValue199
 t36:=Tryz.underlying200
 a36:=Tryz.isAgg200
 z36:=Tryz.sizeOf200
 v36:=Tryz.zeroValue200
 t41:=Tryz.underlying91
 a41:=Tryz.isAgg91
 z41:=Tryz.sizeOf91
 v41:=Tryz.zeroValue91
 t44:=Tryz.underlying128
 a44:=Tryz.isAgg128
 z44:=Tryz.sizeOf128
 v44:=Tryz.zeroValue128
 t46:=Tryz.underlying134
 a46:=Tryz.isAgg134
 z46:=Tryz.sizeOf134
 v46:=Tryz.zeroValue134
 t53:=Tryz.underlying236
 a53:=Tryz.isAgg236
 z53:=Tryz.sizeOf236
 v53:=Tryz.zeroValue236
 t57:=Tryz.underlying240
 a57:=Tryz.isAgg240
 z57:=Tryz.sizeOf240
 v57:=Tryz.zeroValue240
 t63:=Tryz.underlying291
 a63:=Tryz.isAgg291
 z63:=Tryz.sizeOf291
 v63:=Tryz.zeroValue291
 t64:=Tryz.underlying253
 a64:=Tryz.isAgg253
 z64:=Tryz.sizeOf253
 v64:=Tryz.zeroValue253 }
end Go.Proofs
namespace Go.Av.Tp
open Go Go.Proofs Go.RowKit Go.Maps Go.Sort Go.Shelf
def Z9y (m:Nat):AnyZ.SortsIn Tryz.prog Tryz.lsorted_ren Fence.wide m:=
  ⟨fun blk off cap ss W hH hblk hsz=>callsIn_wide.2 (AnyM.slices_Sort_string Tryz.lssort blk off cap ss W hH hblk hsz),
   fun p cap W=>callsIn_wide.2 (AnyM.slices_Sort_string_none Tryz.lssort p cap W)⟩

def Z2v (mb:Option Nat) (W:World):CallsIn Fence.wide 5 Tryz.prog 56 #[.map mb] W fun e w'=>e = .returned (.func (.func 95) #[] #[.pointer (some ⟨W.heap.size,0,none⟩)])∧w'=W.alloc (.cells #[.map mb] 125):=
  AnyZ.keys_in Tryz.lkeys Fence.wide 5 trivial rfl mb W

set_option maxHeartbeats 1000000 in
def Qu2 {H:Type} (b nn:Nat) (D0:DataW H) (R:Value->Option (DataW H×List MemPlace)) (w:World) (hown:w.ownsMap Tryz.prog 9 R b nn D0) (hmax:Maps.size D0≤maxLen) (hbytes:Maps.size D0 * 16≤140737488355328) :
    CallsIn Fence.wide 5 Tryz.prog 55 #[.func (.func 95) #[] #[.pointer (some ⟨w.heap.size,0,none⟩)]] (w.alloc (.cells #[.map (some b)] 125)) fun e w'=>∃ (v:Value) (ss:List (List UInt8)),e = .returned v∧ss.Perm (strKeys D0) ∧
      w'.ownsRow (w.alloc (.cells #[.map (some b)] 125)).heap.size 9 1 v ss.length ((ss.mergeSort (fun x y=>decide (x≤y))).map encStr)∧(v = .slice none 0 0↔ss = [])∧Below (w.alloc (.cells #[.map (some b)] 125)).heap.size (w.alloc (.cells #[.map (some b)] 125)) w':=by
  have hbl:=hown.lt
  have hseq:SeqGives Fence.wide 2 Tryz.prog 95 #[.pointer (some ⟨w.heap.size,0,none⟩)] encStr (fun ss=>ss.Perm (strKeys D0)) (Maps.size D0) (w.alloc (.cells #[.map (some b)] 125)):=
    AnyZ.keys_gives (ρ:=Tryz.lkeys_ren) { Tryz.lkeys with } Fence.wide _ trivial rfl (by omega) w.heap.size b nn D0 _ (by simp) (by simp) (by
      obtain ⟨es,clock,hb,Ft,hs,hD⟩:=hown
      exact ⟨es,clock,(Below.heap_alloc _ _ b hbl).trans hb,Ft,hs,hD⟩)
  exact AnyZ.sorted_in Tryz.lsorted Fence.wide 5 trivial trivial trivial trivial rfl (by omega) (Z9y _) (enters_of Tryz.func94 (by kernel_rfl) rfl) 95 #[.pointer (some ⟨w.heap.size,0,none⟩)] trivial (enters_of Tryz.func95 (by kernel_rfl) rfl) _ _ hmax hbytes _ hseq

set_option maxRecDepth 100000 in
set_option maxHeartbeats 1000000 in
def Qr5 {H:Type} (b nn:Nat) (D0:DataW H) (R:Value->Option (DataW H×List MemPlace)) (w:World) (hown:w.ownsMap Tryz.prog 9 R b nn D0) (hmax:Maps.size D0≤maxLen) (hbytes:Maps.size D0 * 16≤140737488355328) (bl of:Nat) (hc:w.cell? ⟨bl,of,none⟩=some (.map (some b))) :
    Calls Tryz.prog 20 #[.pointer (some ⟨bl,of,none⟩)] w fun e w'=>∃ (v:Value) (ss:List (List UInt8)),e = .returned v∧ss.Perm (strKeys D0) ∧
      w'.ownsRow w.heap.size 9 1 v ss.length ((ss.mergeSort (fun x y=>decide (x≤y))).map encStr)∧(v = .slice none 0 0↔ss = [])∧Below w.heap.size w w':=by
  refine (callsIn_wide (n:=6)).1 ?_;have hfK:Fence.wide.fn 56:=trivial;have hfS:Fence.wide.fn 55:=trivial;refine callsIn_of_wp Tryz.func20 rfl trivial ?_ rfl;simp only [Tryz.ntmps20,List.size_toArray,List.length_cons,List.length_nil,Nat.reduceAdd,Nat.reduceSub,Array.replicate_succ,Array.replicate_zero,List.push_toArray,List.append_toArray,List.nil_append,List.cons_append]
  gi_wp2_with (first
    | (gi_at_call 56;refine (Z2v _ _).mono ?_;rintro e w' ⟨rfl,rfl⟩)
    | (gi_at_call 55;refine (Qu2 b nn D0 R w hown hmax hbytes).mono ?_;rintro e w' ⟨v,ss,rfl,hS,hrow,hnil,hb⟩))
  go_ret
  exact ⟨v,ss,rfl,hS,ownsRow_base_a hrow (by simp),hnil,((Below.refl _ w).alloc (Nat.le_refl _) _).trans (hb.mono (by simp))⟩
end Go.Av.Tp
namespace Go.Av.Tp
set_option maxHeartbeats 4000000
open Go Go.Proofs Go.RowKit Go.Maps Go.Sort Go.Shelf
variable {Gl:Nat->Option (List PV)}
def Z5g:∀ l:List (List UInt8),(Xh cS l).length=l.length * 1:=fun l=>Q65 (c:=cS) (fun _=>rfl) l
def Qwk:∀ (l:List (List UInt8)) (j:Nat) (x:AV),(Xh cS l)[j]? = some x->(∀ θ S w,RelV θ S w x ((l.map encStr).getD j Qr))∧((l.map encStr).getD j Qr).oneCell'=true
 | [],j,x,h=>by simp [Xh] at h
 | s::l,0,x,h=>by
  have:x = .p (.str s):=by simp_all [Xh]
  subst this;exact ⟨fun θ S w => .p _ _ (.str s),rfl⟩
 | s::l,j+1,x,h=>by
  have:=Qwk l j x (by simp_all [Xh])
  simp_all
def Qsf {H:Type} (x:Lit×DataW H):∀ l,(DataW.insert x l).Perm (x::l)
 | [] => .refl _
 | y::r=>by
  unfold DataW.insert;split
  ·rfl
  exact ((Qsf x r).cons y).trans (.swap x y r)
def Qhi {H:Type}:∀ l:List (Lit×DataW H),(l.foldr DataW.insert []).Perm l
 | [] => .refl _
 | x::l=>(Qsf x _).trans ((Qhi l).cons x)
def Z5m {R:Reg} {g:List (Nat×Nat)} (hg:g.length=R.length) {θ:Th} {S:Nat->Prop} {w:World} {E:Array MapEntry} (e2:E.size=(gm R g).length)
  (e4:∀ (i:Nat) k v,(gm R g)[i]? = some (k,v)->RelP S w k (E.getD i default).key∧RelV θ S w v (E.getD i default).val):E.toList.map (·.key)=(R.map (·.1)).map fun s=>Value.string ⟨⟨s⟩⟩:=by
 apply Lw;intro i;rw [Mr,Ll,Ll]
 by_cases hi:i<R.length
 ·have hgm:=Qfa hg (La hi)
  have hE:i<E.size:=by grind
  have h1:=(e4 i _ _ hgm).1
  have eg:E.getD i default=E[i]:=by rw [Mb,Me hE];rfl
  rw [eg] at h1;rw [Nx,Me hE,La hi]
  have hk:(E[i]).key=Value.string ⟨⟨R[i].1⟩⟩:=by
   generalize (E[i]).key=kv at h1;cases h1;rfl
  simp_all
 exact jk
def okKeys (R:Reg):Bool:=decide (R.length≤1000000∧(R.map (·.1)).Nodup∧∀ q∈R,q.1.length≤1000000)
abbrev rdU (_:Value):Option (DataW Unit×List MemPlace):=some (.nil,[])
set_option maxRecDepth 100000 in
def Y2i:Tryz.prog.underlying 9=some .string:=by kernel_rfl
def Qzv {P:Program} (h9:P.underlying 9=some .string) {R:Reg} (hR:R.length≤1000000) (hnd:(R.map (·.1)).Nodup) (hln:∀ q∈R,q.1.length≤1000000) {w:World} {b clock:Nat} {E:Array MapEntry} (hb:w.heap[b]? = some (.map E clock)) (hB:Born E clock) (hE:E.size=R.length)
  (hk:E.toList.map (·.key)=(R.map (·.1)).map fun s=>Value.string ⟨⟨s⟩⟩):∃ D0:DataW Unit,w.ownsMap P 9 rdU b E.size D0∧Maps.size D0=R.length∧(strKeys D0).Perm (R.map (·.1)):=by
 have rdk:∀ x∈E.toList,∃ s∈R.map (·.1),x.key=Value.string ⟨⟨s⟩⟩∧WideElems.rd P 9 rdU x=some (.string s,.nil):=by
  intro x hx;have:x.key∈E.toList.map (·.key):=Md.2 ⟨x,hx,rfl⟩;rw [hk] at this;obtain ⟨s,hs,e⟩:=Md.1 this;refine ⟨s,hs,e.symm,?_⟩;obtain ⟨q,hq,eq⟩:=Md.1 hs
  have hl:s.length≤1000000:=by grind
  unfold WideElems.rd keyOf;rw [h9,← e];show (mapKey P 9 (.string ⟨⟨s⟩⟩)).bind _=_;unfold mapKey;rw [h9];show (if (ByteArray.mk ⟨s⟩).size≤maxLen then _ else _:Option Lit).bind _=_;rw [Af (by show s.length≤maxLen;unfold maxLen;omega)];rfl
 have hkn:(E.toList.map (·.key)).Nodup:=by grind
 refine ⟨_,⟨E,clock,hb,⟨by grind [maxLen],⟨hB.1,hB.2,hkn⟩,fun x hx=>by grind⟩,Lh _,rfl⟩,?_,?_⟩
 ·show (List.foldr DataW.insert [] _).length=_;rw [(Qhi _).length_eq,Mf,Array.length_toList,hE]
 show ((List.foldr DataW.insert [] _).map fun p=>strOf p.1).Perm _;refine ((Qhi _).map _).trans ?_;rw [Mr]
 have:E.toList.map ((fun p:Lit×DataW Unit=>strOf p.1) ∘ WideElems.rg P 9 rdU)=R.map (·.1):=by
  have e1:(E.toList.map ((fun p:Lit×DataW Unit=>strOf p.1) ∘ WideElems.rg P 9 rdU)).map (fun s=>Value.string ⟨⟨s⟩⟩)=(R.map (·.1)).map fun s=>Value.string ⟨⟨s⟩⟩:=by grind [List.map_congr_left,strOf,WideElems.rg]
  have inj:∀ (l m:List (List UInt8)),l.map (fun s=>Value.string ⟨⟨s⟩⟩)=m.map (fun s=>Value.string ⟨⟨s⟩⟩)->l=m:=by
   intro l
   induction l with
   | nil=>simp
   | cons a l ih=>
    intro m h;cases m<;>grind
  exact inj _ _ e1
 simp_all
def Z7y (x:List UInt8):List (List UInt8)->List (List UInt8)
 | [] => [x]
 | y::l=>if Op.bytesLess y x=true then y::Z7y x l else x::y::l
def Qy5:List (List UInt8)->List (List UInt8)
 | [] => []
 | x::l=>Z7y x (Qy5 l)
def rClients (R:Reg):List (List UInt8):=Qy5 (R.map (·.1))
theorem Qhz (x:List UInt8):∀ l,(Z7y x l).Perm (x::l)
 | [] => .refl _
 | y::l=>by
  unfold Z7y;split
  ·exact ((Qhz x l).cons y).trans (.swap x y l)
  rfl
def Q8x:∀ l,(Qy5 l).Perm l
 | [] => .refl _
 | x::l=>(Qhz x (Qy5 l)).trans ((Q8x l).cons x)
theorem Qoz:∀ x y z:List UInt8,Op.bytesLess x y=true->Op.bytesLess y z=true->Op.bytesLess x z=true
 | _,_,[],_,h=> fg
 | _,[],_::_,h,_=> fg
 | [],_::_,_::_,_,_=>by rfl
 | a::x,b::y,c::z,h1,h2=>by
  simp only [Op.bytesLess,Nl,Le,Ag,Aj] at h1 h2 ⊢
  rcases h1 with h1 | ⟨rfl,h1⟩
  ·grind
  rcases h2 with h2 | ⟨rfl,h2⟩
  ·simp_all
  exact .inr ⟨rfl,Qoz x y z h1 h2⟩
def Qx9:∀ x y:List UInt8,x≠y->Op.bytesLess x y=true∨Op.bytesLess y x=true
 | [],[],h=>absurd rfl h
 | [],_::_,_ => .inl rfl
 | _::_,[],_ => .inr rfl
 | a::x,b::y,h=>by
  simp only [Op.bytesLess,Nl,Le,Ag,Aj]
  by_cases e:a=b
  ·subst e
   rcases Qx9 x y (fun e=>h (by rw [e])) with g | g<;>simp_all
  grind
def Qi3 (x:List UInt8):∀ l:List (List UInt8),x ∉ l->l.Pairwise (fun a b=>Op.bytesLess a b=true)->(Z7y x l).Pairwise (fun a b=>Op.bytesLess a b=true)
 | [],_,_ => .cons (fun _ h=>by cases h) .nil
 | y::l,hx,h=>by
  obtain ⟨h1,h2⟩:=Mn.1 h;rw [Lx,not_or] at hx;unfold Z7y;split
  ·rename_i g;refine .cons (fun z hz=>?_) (Qi3 x l hx.2 h2)<;>grind [Qhz]
  rename_i g;have hxy:Op.bytesLess x y=true:=(Qx9 x y hx.1).resolve_right g;refine .cons (fun z hz=>?_) h<;>grind [Qoz]
def Qau:∀ l:List (List UInt8),l.Nodup->(Qy5 l).Pairwise (fun a b=>Op.bytesLess a b=true)
 | [],_ => .nil
 | x::l,h=>by
  rw [List.nodup_cons] at h;exact Qi3 x _ (fun e=>h.1 ((Q8x l).mem_iff.1 e)) (Qau l h.2)
def Qi7:∀ l m:List (List UInt8),l.Perm m->l.Pairwise (fun a b=>Op.bytesLess a b=true)->m.Pairwise (fun a b=>¬ Op.bytesLess b a=true)->l=m
 | [],m,h,_,_=>(List.nil_perm.1 h).symm
 | a::l,[],h,_,_=>by simp_all
 | a::l,b::m,h,h1,h2=>by
  obtain ⟨p1,p2⟩:=Mn.1 h1;obtain ⟨q1,q2⟩:=Mn.1 h2;have hb:b∈a::l:=h.mem_iff.2 (.head _);have ha:a∈b::m:=h.mem_iff.1 (.head _)
  have e:a=b:=by grind
  subst e;rw [Qi7 l m h.cons_inv p2 q2]
def Zc0:∀ (x y:List UInt8),Op.bytesLess x y=decide (x<y):=Go.Proofs.bytesLess_eq
def Qq4 {R:Reg} {g:List (Nat×Nat)} (hg:g.length=R.length) (hok:okKeys R=true):Qq Tryz.prog Gl 20 [.ptr 0 0] (U8 R g)
  (fun v H'=>(rClients R = []∧v = .p .nilSlice∧H'=U8 R g)∨(rClients R ≠ []∧v = .slice 1 2 0 (rClients R).length∧H'=U8 R g ++ [.cells (Xh cS (rClients R))])):=by
 obtain ⟨hR,hnd,hln⟩:=Aa hok;refine ⟨by kernel_rfl,fun θ w cargs hargs hH hG=>?_⟩;have ha:=hargs.2 0 _ rfl;have hsz:=hargs.1;obtain ⟨cv,rfl⟩:∃ cv,cargs = #[cv]:=Nj.1 hsz;have ha:RelV θ (Qu θ (U8 R g)) w (.ptr 0 0) cv:=ha
 cases ha with
 | ptr _ _ l0 hl0=>
  obtain ⟨C,t,fz,c1,c2,c3,c4,c5⟩:=hH.obj 0 _ l0 rfl hl0;have hm:=(c5 0 (.map 1) rfl).1
  have hoc:l0.off+0<C.size:=by grind
  have hcell:w.cell? ⟨l0.blk,l0.off+0,none⟩=some (C.getD (l0.off+0) Qr):=by simp_all [World.cell?]
  generalize C.getD (l0.off+0) Qr=mv at hm hcell
  cases hm with
  | map _ l1 hl1=>
   obtain ⟨E,clock,e1,e2,e3,e4⟩:=hH.obj 1 _ l1 rfl hl1;have hk:=Z5m hg e2 e4
   have hE:E.size=R.length:=jk
   obtain ⟨D0,d1,d2,d3⟩:=Qzv Y2i hR hnd hln e1 e3 hE hk;refine (Qr5 l1.blk E.size D0 rdU w d1 (by grind [maxLen]) (by omega) l0.blk (l0.off+0) hcell).mono ?_
   rintro e w' ⟨v,ss,rfl,hS,hrow,hnil,hb⟩
   have hT:rClients R=ss.mergeSort (fun x y=>decide (x≤y)):=by
    refine Qi7 _ _ ((Q8x _).trans (d3.symm.trans (hS.symm.trans (List.mergeSort_perm _ _).symm))) (Qau _ hnd) ?_;have hp:=List.pairwise_mergeSort (le:=fun x y:List UInt8=>decide (x≤y)) (fun a b c h1 h2=>by grind) (fun a b=>by grind) ss;refine hp.imp fun {a b} h=>?_;rw [Zc0];simp at h ⊢;exact h
   have hlen:(rClients R).length=ss.length:=by simp_all
   rw [← hT] at hrow
   rcases hrow.2 with ⟨rfl,h0⟩ | ⟨gb,cap,cur,rfl,hg0,hgb,hl1',hl2,hl3,hl4⟩
   ·have e0:rClients R = []:=Cb.1 (by omega);obtain ⟨k1,k2⟩:=Qmf hH hb;exact ⟨.p .nilSlice,_,_,θ,rfl,.inl ⟨e0,rfl,rfl⟩,.p _ _ .nilSlice,k1,⟨k2,Lh _,fun _ _=>rfl⟩⟩
   have hne:rClients R ≠ []:=fun e=>by
    grind
   rw [← hlen] at hl1' hl4 ⊢;obtain ⟨θ',k1,k2,k3⟩:=Z3a (cs:=Xh cS (rClients R)) hH hb (by decide) hg0 hgb hl1' hl3 hl4 (Z5g _) (Qwk _);exact ⟨_,_,_,θ',rfl,.inr ⟨hne,rfl,rfl⟩,k1,k2,k3⟩
end Go.Av.Tp
