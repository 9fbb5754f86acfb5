/- MovesNames' card: for every program that comes in the call returns true, and the program reads as it did (movesNames_card_holds). Conditions: those of the card; errors.errorType, which the row lists, is tied to the program's text. -/
import Derived.Test.YtgiomfnpkkdknaaGreatDoorMg01
import Derived.Test.YtgiomfnpkkdknaaGreatDoorMg05
import Derived.Test.YtgiomfnpkkdknaaGreatDoorMg12
import Derived.Test.YtgiomfnpkkdknaaGreatDoorMg16
import Derived.Test.YtgiomfnpkkdknaaGreatDoorMg18
import Derived.Test.YtgiomfnpkkdknaaGreatDoorMg19
import Derived.Test.YtgiomfnpkkdknaaGreatDoorTie
import Derived.Test.YtgiomfnpkkdknaaGreatDoorCards
import Derived.SevenTiedAt
namespace Go.Proofs.YtgiomfnpkkdknaaGreatDoor
open Go.RowKit
set_option linter.unusedVariables false
set_option linter.unusedSimpArgs false
set_option maxHeartbeats 8000000
set_option maxRecDepth 100000
section
mutual
def Ex.mp (r:ByteArray→ByteArray):Ex→Ex
 | .mk k n s o l=>.mk k n (r s) o (Ex.mps r l)
def Ex.mps (r:ByteArray→ByteArray):List Ex→List Ex
 |[]=>[]
 |e::l=>Ex.mp r e::Ex.mps r l
end
mutual
def St.mp (r:ByteArray→ByteArray):St→St
 | .mk k nm fr sec mt ex args body els=>.mk k (r nm) (r fr) sec mt (Ex.mps r ex) (args.map r) (St.mps r body) (St.mps r els)
def St.mps (r:ByteArray→ByteArray):List St→List St
 |[]=>[]
 |s::l=>St.mp r s::St.mps r l
end
def Pa.mp (r:ByteArray→ByteArray) (x:Pa):Pa:=⟨r x.name,x.buf,x.sec,x.mt⟩
def Fu.mp (r:ByteArray→ByteArray) (f:Fu):Fu:=⟨r f.name,f.params.map (Pa.mp r),St.mps r f.body,f.sec,Ex.mps r f.ret⟩
theorem exmps_eq (r:ByteArray→ByteArray):∀l:List Ex,Ex.mps r l=l.map (Ex.mp r)
 |[]=>rfl
 |e::l=>by rw[Ex.mps,exmps_eq r l];rfl
def padN (s:ByteArray):ByteArray:=⟨#[0,0,0,0,0]++s.data⟩
def ren (M:List ByteArray) (s:ByteArray):ByteArray:=if emp s then s else if inM M s then rho M s else padN s
theorem rho_size (M:List ByteArray) (s:ByteArray):(rho M s).data.size=4:=rfl
theorem pad_size (s:ByteArray):5≤(padN s).data.size:=by simp[padN]
theorem emp_size {s:ByteArray} (h:emp s=true):s.data.size=0:=by simpa[emp] using h
theorem ren_emp (M:List ByteArray) (s:ByteArray):emp (ren M s)=emp s:=by
 unfold ren;by_cases h:emp s=true
 ·rw[if_pos h]
 ·rw[if_neg h];have h':emp s=false:=by simpa using h
  rw[h'];split
  ·rfl
  ·have h5:=pad_size s;cases he:emp (padN s) with
   |false=>rfl
   |true=>have:=emp_size he;omega
theorem ren_inj (M:List ByteArray) (hl:M.length≤17576) {s t:ByteArray} (h:ren M s=ren M t):s=t:=by
 have he:emp s=emp t:=by rw[←ren_emp M s,h,ren_emp]
 unfold ren at h;rw[he] at h;by_cases h0:emp t=true
 ·rw[if_pos h0,if_pos h0] at h;exact h
 ·rw[if_neg h0,if_neg h0] at h;by_cases hs:inM M s=true<;>by_cases ht:inM M t=true
  ·rw[if_pos hs,if_pos ht] at h;exact rho_inj hl (inM_iff.1 hs) (inM_iff.1 ht) h
  ·rw[if_pos hs,if_neg ht] at h;have:=rho_size M s;rw[h] at this;have:=pad_size t;omega
  ·rw[if_neg hs,if_pos ht] at h;have:=rho_size M t;rw[←h] at this;have:=pad_size s;omega
  ·rw[if_neg hs,if_neg ht] at h;obtain⟨a⟩:=s;obtain⟨b⟩:=t;simp only[padN,ByteArray.mk.injEq] at h;rw[ByteArray.mk.injEq];exact Array.append_right_inj _ |>.1 h
theorem ren_of {L M:List ByteArray} (hL:Wf L) (s:ByteArray) (h:Pre (rnOf L s).2 M):(rnOf L s).1=ren M s:=by
 unfold ren;by_cases h0:emp s=true
 ·rw[if_pos h0,rnOf_emp hL h0]
 ·rw[if_neg h0];have hm:=rnOf_mem (L:=L) s (by simpa using h0);rw[if_pos (inM_iff.2 (h.mem hm.1)),h.rho hm.1];exact hm.2
mutual
theorem rnE_mp (M:List ByteArray):∀(e:Ex) (L:List ByteArray),Wf L→Pre (e.rnS L).2 M→(e.rnS L).1=e.mp (ren M)
 | .mk k n s o l,L,hL,h=>by
   rw[Ex.rnS] at h ⊢;have w1:=rnOf_wf hL s;have w2:=rnEs_wf l (rnOf L s).2 w1;simp only at h ⊢;rw[Ex.mp,rnEs_mp M l _ w1 h,ren_of hL s (w2.2.trans h)]
theorem rnEs_mp (M:List ByteArray):∀(l:List Ex) (L:List ByteArray),Wf L→Pre (Ex.rnSs l L).2 M→(Ex.rnSs l L).1=Ex.mps (ren M) l
 |[],L,_,_=>by rw[Ex.rnSs,Ex.mps]
 |e::l,L,hL,h=>by
  rw[Ex.rnSs] at h ⊢;have w1:=rnE_wf e L hL;have w2:=rnEs_wf l (e.rnS L).2 w1.1;simp only at h ⊢;rw[Ex.mps,rnEs_mp M l _ w1.1 h,rnE_mp M e L hL (w2.2.trans h)]
end
theorem rnL_mp (M:List ByteArray):∀(l:List ByteArray) (L:List ByteArray),Wf L→Pre (rnL l L).2 M→(rnL l L).1=l.map (ren M)
 |[],L,_,_=>by rw[rnL];rfl
 |s::l,L,hL,h=>by
  rw[rnL] at h ⊢;have w1:=rnOf_wf hL s;have w2:=rnL_wf l (rnOf L s).2 w1;simp only at h ⊢;rw[List.map_cons,rnL_mp M l _ w1 h,ren_of hL s (w2.2.trans h)]
mutual
theorem rnSt_mp (M:List ByteArray):∀(s:St) (L:List ByteArray),Wf L→Pre (s.rnS L).2 M→(s.rnS L).1=s.mp (ren M)
 | .mk k nm fr sec mt ex args body els,L,hL,h=>by
   rw[St.rnS] at h ⊢;simp only at h ⊢;have w1:=rnOf_wf hL nm;have w2:=rnOf_wf w1 fr;have w3:=rnEs_wf ex _ w2;have w4:=rnL_wf args _ w3.1;have w5:=rnSts_wf body _ w4.1;have w6:=rnSts_wf els _ w5.1;have p2:=rnOf_pre (L:=(rnOf L nm).2) fr;have p6:=h;have p5:=w6.2.trans p6;have p4:=w5.2.trans p5;have p3:=w4.2.trans p4;have p2':=w3.2.trans p3;rw[St.mp,rnSts_mp M els _ w5.1 p6,rnSts_mp M body _ w4.1 p5,rnL_mp M args _ w3.1 p4,rnEs_mp M ex _ w2 p3,ren_of w1 fr p2',ren_of hL nm (p2.trans p2')]
theorem rnSts_mp (M:List ByteArray):∀(l:List St) (L:List ByteArray),Wf L→Pre (St.rnSs l L).2 M→(St.rnSs l L).1=St.mps (ren M) l
 |[],L,_,_=>by rw[St.rnSs,St.mps]
 |s::l,L,hL,h=>by
  rw[St.rnSs] at h ⊢;have w1:=rnSt_wf s L hL;have w2:=rnSts_wf l (s.rnS L).2 w1.1;simp only at h ⊢;rw[St.mps,rnSts_mp M l _ w1.1 h,rnSt_mp M s L hL (w2.2.trans h)]
end
theorem rnPa_mp (M:List ByteArray):∀(l:List Pa) (L:List ByteArray),Wf L→Pre (Pa.rnSs l L).2 M→(Pa.rnSs l L).1=l.map (Pa.mp (ren M))
 |[],L,_,_=>by rw[Pa.rnSs];rfl
 |x::l,L,hL,h=>by
  rw[Pa.rnSs] at h ⊢;have w1:=rnOf_wf hL x.name;have w2:=rnPa_wf l (rnOf L x.name).2 w1;simp only at h ⊢;rw[List.map_cons,rnPa_mp M l _ w1 h,ren_of hL x.name (w2.2.trans h)];rfl
theorem rnFu_mp (M:List ByteArray) (f:Fu) (L:List ByteArray) (hL:Wf L) (h:Pre (f.rnS L).2 M):(f.rnS L).1=f.mp (ren M):=by
 unfold Fu.rnS at h ⊢;simp only at h ⊢;have w1:=rnOf_wf hL f.name;have w2:=rnPa_wf f.params _ w1;have w3:=rnSts_wf f.body _ w2.1;have w4:=rnEs_wf f.ret _ w3.1;have p3:=w4.2.trans h;have p2:=w3.2.trans p3;rw[Fu.mp,rnEs_mp M f.ret _ w3.1 h,rnSts_mp M f.body _ w2.1 p3,rnPa_mp M f.params _ w1 p2,ren_of hL f.name (w2.2.trans p2)]
theorem rnFus_mp (M:List ByteArray):∀(l:List Fu) (L:List ByteArray),Wf L→Pre (Fu.rnSs l L).2 M→(Fu.rnSs l L).1=l.map (Fu.mp (ren M))
 |[],L,_,_=>by rw[Fu.rnSs];rfl
 |f::l,L,hL,h=>by
  rw[Fu.rnSs] at h ⊢;have w1:=rnFu_wf f L hL;have w2:=rnFus_wf l (f.rnS L).2 w1.1;simp only at h ⊢;rw[List.map_cons,rnFus_mp M l _ w1.1 h,rnFu_mp M f L hL (w2.2.trans h)]
theorem renP_mp (P:List Fu):renP P=P.map (Fu.mp (ren (Fu.rnSs P []).2)):=rnFus_mp _ P [] Wf.nil (Pre.refl _)
def NL.mp (r:ByteArray→ByteArray) (l:NL):NL:=l.map fun p=>(r p.1,p.2)
def Ev.mp (r:ByteArray→ByteArray) (a:Ev):Ev:=⟨NL.mp r a.nm,a.n,a.loops⟩
def erMp (r:ByteArray→ByteArray):Er Ev→Er Ev
 | .error x=>.error x
 | .ok a=>.ok (a.mp r)
mutual
theorem sv_mp {r:ByteArray→ByteArray} (g g':ByteArray→Nm) (hg:∀s,g' (r s)=g s):∀e:Ex,Ex.sv g' (e.mp r)=Ex.sv g e
 | .mk k n s o l=>by rw[Ex.mp,Ex.sv,Ex.sv,svs_mp g g' hg l,hg]
theorem svs_mp {r:ByteArray→ByteArray} (g g':ByteArray→Nm) (hg:∀s,g' (r s)=g s):∀l:List Ex,Ex.svs g' (Ex.mps r l)=Ex.svs g l
 |[]=>by rw[Ex.mps,Ex.svs,Ex.svs]
 |e::l=>by rw[Ex.mps,Ex.svs,Ex.svs,sv_mp g g' hg e,svs_mp g g' hg l]
end
mutual
theorem so_mp {r:ByteArray→ByteArray} (ru:Int) (g g':ByteArray→Nm) (hg:∀s,g' (r s)=g s):∀e:Ex,Ex.so ru g' (e.mp r)=Ex.so ru g e
 | .mk k n s o l=>by rw[Ex.mp,Ex.so,Ex.so,sos_mp ru g g' hg l,svs_mp g g' hg l,hg]
theorem sos_mp {r:ByteArray→ByteArray} (ru:Int) (g g':ByteArray→Nm) (hg:∀s,g' (r s)=g s):∀l:List Ex,Ex.sos ru g' (Ex.mps r l)=Ex.sos ru g l
 |[]=>by rw[Ex.mps,Ex.sos,Ex.sos]
 |e::l=>by rw[Ex.mps,Ex.sos,Ex.sos,so_mp ru g g' hg e,sos_mp ru g g' hg l]
end
section
variable {r:ByteArray→ByteArray} (hr:∀{s t:ByteArray},r s=r t→s=t) (he:∀s,emp (r s)=emp s)
include hr
theorem sq_mp (s t:ByteArray):sq (r s) (r t)=sq s t:=by
 rw[Bool.eq_iff_iff,sq_iff,sq_iff];exact⟨fun h=>hr h,fun h=>by rw[h]⟩
theorem nhas_mp (l:NL) (s:ByteArray):nhas (NL.mp r l) (r s)=nhas l s:=by
 unfold nhas NL.mp;rw[List.any_map];congr 1;funext p;exact sq_mp hr p.1 s
theorem nget_mp (l:NL) (s:ByteArray):nget (NL.mp r l) (r s)=nget l s:=by
 unfold nget NL.mp;rw[List.find?_map,show((fun p:ByteArray×Nm=>sq p.1 (r s))∘fun p:ByteArray×Nm=>(r p.1,p.2))=fun p=>sq p.1 s from funext fun p=>sq_mp hr p.1 s,Option.map_map];rfl
theorem nset_mp (l:NL) (s:ByteArray) (x:Nm):nset (NL.mp r l) (r s) x=NL.mp r (nset l s x):=by
 unfold nset NL.mp;rw[List.map_map,List.map_map];apply List.map_congr_left;intro p _;simp only[Function.comp];rw[sq_mp hr];split<;>rfl
theorem nput_mp (l:NL) (s:ByteArray) (x:Nm):nput (NL.mp r l) (r s) x=NL.mp r (nput l s x):=by
 unfold nput;rw[nhas_mp hr,nset_mp hr];split
 ·rfl
 ·simp[NL.mp]
theorem ndel_mp (l:NL) (s:ByteArray):ndel (NL.mp r l) (r s)=NL.mp r (ndel l s):=by
 unfold ndel NL.mp;rw[List.filter_map,show((fun p:ByteArray×Nm=> !sq p.1 (r s))∘fun p:ByteArray×Nm=>(r p.1,p.2))=fun p=> !sq p.1 s from funext fun p=>by simp only[Function.comp];rw[sq_mp hr]]
theorem nkeep_mp (l m:NL):nkeep (NL.mp r l) (NL.mp r m)=NL.mp r (nkeep l m):=by
 have h:(fun p:ByteArray×Nm=>nhas (NL.mp r m) p.1)∘(fun p:ByteArray×Nm=>(r p.1,p.2))=fun p=>nhas m p.1:=funext fun p=>nhas_mp hr m p.1;show(l.map fun p=>(r p.1,p.2)).filter (fun p=>nhas (NL.mp r m) p.1)=(l.filter fun p=>nhas m p.1).map fun p=>(r p.1,p.2)
 rw[List.filter_map,h]
theorem ngone_mp (l m:NL):ngone (NL.mp r l) (NL.mp r m)=NL.mp r (ngone l m):=by
 show(l.map fun p=>(r p.1,p.2)).map (fun p=>(p.1,{p.2 with gone:=p.2.gone||(nget (NL.mp r m) p.1).gone}))=(l.map fun p=>(p.1,{p.2 with gone:=p.2.gone||(nget m p.1).gone})).map fun p=>(r p.1,p.2)
 rw[List.map_map,List.map_map];apply List.map_congr_left;intro p _;simp only[Function.comp];rw[nget_mp hr]
theorem g_mp (a:Ev) (s:ByteArray):(a.mp r).g (r s)=a.g s:=nget_mp hr a.nm s
theorem give_mp (a:Ev) (s:ByteArray) (x:Nm):(a.mp r).give (r s) x=(a.give s x).mp r:=by
 unfold Ev.give Ev.mp;simp only;rw[nput_mp hr]
theorem put_mp (a:Ev) (s:ByteArray) (x:Nm):(a.mp r).put (r s) x=(a.put s x).mp r:=by
 unfold Ev.put Ev.mp;simp only;rw[nput_mp hr]
theorem del_mp (a:Ev) (s:ByteArray):(a.mp r).del (r s)=(a.del s).mp r:=by
 unfold Ev.del Ev.mp;simp only;rw[ndel_mp hr]
omit hr in
theorem if_mp (a:Ev) (ok:Bool) (x:Er Ev):(a.mp r).if ok (erMp r x)=erMp r (a.if ok x):=by
 unfold Ev.if;split<;>rfl
theorem gso_mp (ru:Int) (a:Ev) (e:Ex):Ex.so ru (a.mp r).g (e.mp r)=Ex.so ru a.g e:=so_mp ru a.g (a.mp r).g (g_mp hr a) e
theorem gsv_mp (a:Ev) (e:Ex):Ex.sv (a.mp r).g (e.mp r)=Ex.sv a.g e:=sv_mp a.g (a.mp r).g (g_mp hr a) e
theorem into_mp (ru:Int) (a:Ev) (e:Ex) (sec:Bool):(a.mp r).into ru (e.mp r) sec=a.into ru e sec:=by
 unfold Ev.into;rw[gso_mp hr,gsv_mp hr]
include he
omit hr in
theorem nob_mp:r nob=nob:=by
 have h:emp (r nob)=true:=by rw[he];rfl
 have h2:=emp_size h;clear h;generalize r nob=y at h2 ⊢;obtain⟨x⟩:=y;simp only at h2;rw[Array.size_eq_zero_iff] at h2;rw[h2];rfl
omit hr in
theorem exz_mp:Ex.zero.mp r=Ex.zero:=by
 have:=nob_mp he;unfold nob at this;unfold Ex.zero;rw[Ex.mp,this,Ex.mps]
omit hr in
theorem exAt_mp (l:List Ex) (i:Nat):exAt (Ex.mps r l) i=(exAt l i).mp r:=by
 unfold exAt;rw[exmps_eq,List.getD_eq_getElem?_getD,List.getD_eq_getElem?_getD,List.getElem?_map];cases l[i]? with
 |none=>exact(exz_mp he).symm
 |some x=>rfl
omit hr in
theorem argAt_mp (l:List ByteArray) (i:Nat):(l.map r).getD i nob=r (l.getD i nob):=by
 rw[List.getD_eq_getElem?_getD,List.getD_eq_getElem?_getD,List.getElem?_map];cases l[i]? with
 |none=>exact(nob_mp he).symm
 |some x=>rfl
omit hr in
theorem paz_mp:Pa.mp r Pa.zero=Pa.zero:=by
 have:=nob_mp he;unfold nob at this;unfold Pa.mp Pa.zero;rw[this]
omit hr in
theorem fuz_mp:Fu.mp r Fu.zero=Fu.zero:=by
 have:=nob_mp he;unfold nob at this;unfold Fu.mp Fu.zero;simp only[this,List.map_nil,St.mps,Ex.mps]
theorem callee_mp (P:List Fu) (F:Nat) (s:ByteArray):calleeM (P.map (Fu.mp r)) F (r s)=(calleeM P F s).mp r:=by
 unfold calleeM;rw[←List.map_take,←List.map_reverse,List.find?_map,show((fun f:Fu=>sq f.name (r s))∘Fu.mp r)=fun f=>sq f.name s from funext fun f=>sq_mp hr f.name s];cases(P.take F).reverse.find? fun f=>sq f.name s with
 |none=>exact(fuz_mp he).symm
 |some f=>rfl
omit hr he in
theorem nums_mp (f:Fu):numsOf (f.mp r)=(numsOf f).map (Pa.mp r):=by
 unfold numsOf Fu.mp;simp only;rw[List.filter_map];rfl
omit hr he in
theorem bufs_mp (f:Fu):bufsOf (f.mp r)=(bufsOf f).map (Pa.mp r):=by
 unfold bufsOf Fu.mp;simp only;rw[List.filter_map];rfl
omit hr in
theorem paAt_mp (l:List Pa) (i:Nat):(l.map (Pa.mp r)).getD i Pa.zero=(l.getD i Pa.zero).mp r:=by
 rw[List.getD_eq_getElem?_getD,List.getD_eq_getElem?_getD,List.getElem?_map];cases l[i]? with
 |none=>exact(paz_mp he).symm
 |some x=>rfl
omit he in
theorem times_mp (args:List ByteArray) (s:ByteArray):timesM (args.map r) (r s)=timesM args s:=by
 unfold timesM;rw[List.countP_map];congr 1;funext x;exact sq_mp hr x s
theorem callOk_mp (ru:Int) (f:Fu) (nm:ByteArray) (ex:List Ex) (args:List ByteArray) (a:Ev):(a.mp r).callOk ru (f.mp r) (r nm) (Ex.mps r ex) (args.map r)=a.callOk ru f nm ex args:=by
 have e1:∀l:List Ex,(Ex.mps r l).length=l.length:=fun l=>by rw[exmps_eq,List.length_map]
 have h1:(a.mp r).exOk ru ((numsOf f).map (Pa.mp r)) (Ex.mps r ex)=a.exOk ru (numsOf f) ex:=by
  funext j;unfold Ev.exOk;rw[exAt_mp he,into_mp hr,List.length_map,paAt_mp he];rfl
 have h2:(args.map r).all (fun s=>((a.mp r).g s).bufOk ru)=args.all (fun s=>(a.g s).bufOk ru):=by
  rw[List.all_map];congr 1;funext s;show((a.mp r).g (r s)).bufOk ru=_
  rw[g_mp hr]
 have h3:(a.mp r).bfOk ru ((bufsOf f).map (Pa.mp r)) (args.map r)=a.bfOk ru (bufsOf f) args:=by
  funext j;unfold Ev.bfOk;rw[argAt_mp he,g_mp hr,List.length_map,paAt_mp he,times_mp hr];rfl
 have h4:(f.mp r).ret.length=f.ret.length:=e1 f.ret;unfold Ev.callOk;rw[nums_mp,bufs_mp,h1,h2,h3,h4,e1,List.length_map,List.length_map,List.length_map,he]
omit hr he in
theorem seal_mp (ru:Int) (P:List Fu) (F:Nat) (a:Ev):(a.mp r).sealOk ru (P.map (Fu.mp r)) F=a.sealOk ru P F:=by
 unfold Ev.sealOk Ev.mp NL.mp;rw[List.length_map,List.all_map];rfl
omit hr he in
theorem keepS_mp (hr:∀{s t:ByteArray},r s=r t→s=t) (a:Ev) (x:Er Ev):evKeep (a.mp r) (erMp r x)=erMp r (evKeep a x):=by
 cases x with
 |error y=>rfl
 |ok a1=>
  show Except.ok ((a1.mp r).with (nkeep (NL.mp r a1.nm) (NL.mp r a.nm)))=_
  rw[nkeep_mp hr];rfl
end
mutual
theorem evStmt_mp {r:ByteArray→ByteArray} (hr:∀{s t:ByteArray},r s=r t→s=t) (he:∀s,emp (r s)=emp s) (ru:Int) (P:List Fu) (F:Nat):∀(s:St) (a:Ev),evStmt ru (P.map (Fu.mp r)) F (s.mp r) (a.mp r)=erMp r (evStmt ru P F s a)
 | .mk k nm fr sec mt ex args body els,a=>by
   rw[St.mp];by_cases h1:k.toNat=1
   ·rw[ev_1 _ _ _ _ _ _ _ _ _ _ _ _ _ h1,ev_1 _ _ _ _ _ _ _ _ _ _ _ _ _ h1,exAt_mp he,into_mp hr,give_mp hr];exact if_mp a _ (.ok _)
   by_cases h2:k.toNat=2
   ·rw[ev_2 _ _ _ _ _ _ _ _ _ _ _ _ _ h2,ev_2 _ _ _ _ _ _ _ _ _ _ _ _ _ h2];unfold Ev.setOk;rw[exAt_mp he,gso_mp hr,gsv_mp hr,g_mp hr];exact if_mp a _ (.ok _)
   by_cases h3:k.toNat=3
   ·rw[ev_3 _ _ _ _ _ _ _ _ _ _ _ _ _ h3,ev_3 _ _ _ _ _ _ _ _ _ _ _ _ _ h3,exAt_mp he,into_mp hr,give_mp hr];exact if_mp a _ (.ok _)
   by_cases h4:k.toNat=4
   ·rw[ev_4 _ _ _ _ _ _ _ _ _ _ _ _ _ h4,ev_4 _ _ _ _ _ _ _ _ _ _ _ _ _ h4];unfold Ev.putOk;rw[exAt_mp he,exAt_mp he,into_mp hr,gso_mp hr,gsv_mp hr,g_mp hr];exact if_mp a _ (.ok _)
   by_cases h5:k.toNat=5
   ·rw[ev_5 _ _ _ _ _ _ _ _ _ _ _ _ _ h5,ev_5 _ _ _ _ _ _ _ _ _ _ _ _ _ h5,exAt_mp he,into_mp hr,←if_mp];congr 1;unfold evBlock;rw[evStmts_mp hr he ru P F body a,keepS_mp hr];cases hb:evKeep a (evStmts ru P F body a) with
    |error x=>rfl
    |ok a1=>
     show(match evKeep ((a1.with a.nm).mp r) (evStmts ru (P.map (Fu.mp r)) F (St.mps r els) ((a1.with a.nm).mp r)) with
      | .error x=>Except.error x
      | .ok a2=>.ok (a2.with (ngone a2.nm (a1.mp r).nm)))=_
     rw[evStmts_mp hr he ru P F els (a1.with a.nm),keepS_mp hr];simp only;cases he2:evKeep (a1.with a.nm) (evStmts ru P F els (a1.with a.nm)) with
     |error x=>rfl
     |ok a2=>
      show Except.ok ((a2.mp r).with (ngone (NL.mp r a2.nm) (NL.mp r a1.nm)))=_
      rw[ngone_mp hr];rfl
   by_cases h67:k.toNat=6∨k.toNat=7
   ·have hin:(a.mp r).loopIn (r nm)=(a.loopIn nm).mp r:=by
     unfold Ev.loopIn;rw[he];split
     ·rfl
     ·exact give_mp hr (a.at (a.loops+1)) nm Nm.zero
    rw[ev_67 _ _ _ _ _ _ _ _ _ _ _ _ _ h67,ev_67 _ _ _ _ _ _ _ _ _ _ _ _ _ h67,exAt_mp he,into_mp hr,←if_mp,hin];congr 1;unfold evBlock;rw[evStmts_mp hr he ru P F body,keepS_mp hr];cases hb:evKeep (a.loopIn nm) (evStmts ru P F body (a.loopIn nm)) with
    |error x=>rfl
    |ok a1=>
     show Except.ok (((a1.at (a1.loops-1)).mp r).del (r nm))=_
     rw[del_mp hr];rfl
   by_cases h8:k.toNat=8
   ·have hok:(a.mp r).lendOk ru (r fr) mt (Ex.mps r ex)=a.lendOk ru fr mt ex:=by
     unfold Ev.lendOk;rw[exAt_mp he,exAt_mp he,into_mp hr,into_mp hr,g_mp hr]
    have hin:(a.mp r).lendIn (r nm) (r fr) mt=(a.lendIn nm fr mt).mp r:=by
     unfold Ev.lendIn;rw[g_mp hr,put_mp hr,give_mp hr]
    rw[ev_8 _ _ _ _ _ _ _ _ _ _ _ _ _ h8,ev_8 _ _ _ _ _ _ _ _ _ _ _ _ _ h8,hok,←if_mp,hin,g_mp hr];congr 1;unfold evBlock;rw[evStmts_mp hr he ru P F body,keepS_mp hr];cases hb:evKeep (a.lendIn nm fr mt) (evStmts ru P F body (a.lendIn nm fr mt)) with
    |error x=>rfl
    |ok a1=>
     show Except.ok ((a1.mp r).lendOut (r nm) (r fr) (a.g fr).lent)=_
     unfold Ev.lendOut;rw[del_mp hr,g_mp hr,put_mp hr];rfl
   by_cases h9:k.toNat=9
   ·rw[ev_9 _ _ _ _ _ _ _ _ _ _ _ _ _ h9,ev_9 _ _ _ _ _ _ _ _ _ _ _ _ _ h9];unfold Ev.moveOk;rw[g_mp hr,put_mp hr,give_mp hr];exact if_mp a _ (.ok _)
   by_cases h10:k.toNat=10
   ·rw[ev_10 _ _ _ _ _ _ _ _ _ _ _ _ _ h10,ev_10 _ _ _ _ _ _ _ _ _ _ _ _ _ h10,exAt_mp he,gso_mp hr,give_mp hr];exact if_mp a _ (.ok _)
   by_cases h11:k.toNat=11
   ·rw[ev_11 _ _ _ _ _ _ _ _ _ _ _ _ _ h11,ev_11 _ _ _ _ _ _ _ _ _ _ _ _ _ h11,callee_mp hr he,callOk_mp hr he,he,←if_mp];congr 1;split
    ·rfl
    ·rw[give_mp hr];rfl
   ·rw[evSt0 _ _ _ _ _ _ _ _ _ _ _ _ _ (by omega),evSt0 _ _ _ _ _ _ _ _ _ _ _ _ _ (by omega),seal_mp];exact if_mp a _ (.ok _)
theorem evStmts_mp {r:ByteArray→ByteArray} (hr:∀{s t:ByteArray},r s=r t→s=t) (he:∀s,emp (r s)=emp s) (ru:Int) (P:List Fu) (F:Nat):∀(l:List St) (a:Ev),evStmts ru (P.map (Fu.mp r)) F (St.mps r l) (a.mp r)=erMp r (evStmts ru P F l a)
 |[],a=>by rw[St.mps,evStmts,evStmts];rfl
 |x::l,a=>by
  rw[St.mps,evStmts,evStmts,show(a.mp r).next=a.next.mp r from rfl,evStmt_mp hr he ru P F x a.next];cases evStmt ru P F x a.next with
  |error y=>rfl
  |ok a1=>exact evStmts_mp hr he ru P F l a1
end
section
variable {r:ByteArray→ByteArray} (hr:∀{s t:ByteArray},r s=r t→s=t) (he:∀s,emp (r s)=emp s)
include hr he
omit he in
theorem evParams_mp:∀(l:List Pa) (a:Ev),evParams (l.map (Pa.mp r)) (a.mp r)=(evParams l a).mp r
 |[],a=>rfl
 |x::l,a=>by
  rw[List.map_cons];show evParams (l.map (Pa.mp r)) (evParam (a.mp r) (Pa.mp r x))=(evParams l (evParam a x)).mp r
  rw[show evParam (a.mp r) (Pa.mp r x)=(evParam a x).mp r from give_mp hr a x.name _];exact evParams_mp l _
theorem evFun_mp (ru:Int) (P:List Fu) (F:Nat) (f:Fu) (n:Int):evFun ru (P.map (Fu.mp r)) F (f.mp r) n=evFun ru P F f n:=by
 have h1:evParams (f.mp r).params ⟨[],n,0⟩=(evParams f.params ⟨[],n,0⟩).mp r:=evParams_mp hr f.params ⟨[],n,0⟩;unfold evFun;rw[h1,show(f.mp r).body=St.mps r f.body from rfl,evStmts_mp hr he ru P F f.body,show(f.mp r).ret=Ex.mps r f.ret from rfl,exmps_eq];cases evStmts ru P F f.body (evParams f.params ⟨[],n,0⟩) with
 |error x=>rfl
 |ok a=>
  show(if(f.ret.map (Ex.mp r)).all (fun e=>(a.mp r).into ru e f.sec)=true then Except.ok (a.n+1+1) else Except.error (a.n+1))=_
  rw[List.all_map,show((fun e=>(a.mp r).into ru e f.sec)∘Ex.mp r)=fun e=>a.into ru e f.sec from funext fun e=>into_mp hr ru a e f.sec]
theorem evWalk_mp (ru:Int) (P:List Fu):∀i,evWalk ru (P.map (Fu.mp r)) i=evWalk ru P i
 |0=>rfl
 |i+1=>by
  rw[evWalk,evWalk,evWalk_mp ru P i];cases evWalk ru P i with
  |error x=>rfl
  |ok n=>
   have hg:(P.map (Fu.mp r)).getD i Fu.zero=(P.getD i Fu.zero).mp r:=by
    rw[List.getD_eq_getElem?_getD,List.getD_eq_getElem?_getD,List.getElem?_map];cases P[i]? with
    |none=>exact(fuz_mp he).symm
    |some x=>rfl
   simp only;rw[hg,evFun_mp hr he]
theorem evCheck_mp (ru:Int) (P:List Fu):evCheck ru (P.map (Fu.mp r))=evCheck ru P:=by
 unfold evCheck;rw[List.length_map,evWalk_mp hr he]
end
theorem lay_names (P:List Fu) (hm:mayM P=true):∀k,layM (renP P) k=layM P k
 |0=>law_names P hm
 |k+1=>by
  rw[layM,layM,lay_names P hm k];split
  ·rfl
  ·rename_i h0;obtain⟨_,n,hn⟩:=sc_ok (layM_sc k (by simpa using h0));have hl:=names_len P hm hn;rw[renP_mp];exact evCheck_mp (r:=ren (Fu.rnSs P []).2) (fun h=>ren_inj _ (by omega) h) (ren_emp _) _ P
end
def alT_a:ByteArray:=⟨#[102,110,32,102,40,41,32,123,32,98,117,102,32,98,91,49,93,59,32,109,111,118,101,32,99,32,61,32,98,59,32,98,91,48,93,32,61,32,49,59,32,125,59]⟩
def alF_a:List Fu:=[⟨⟨#[102]⟩,[],[.mk 3 ⟨#[98]⟩ ⟨#[]⟩ false false [.mk 1 1 ⟨#[]⟩ 0 []] [] [] [],.mk 9 ⟨#[99]⟩ ⟨#[98]⟩ false false [] [] [] [],.mk 4 ⟨#[98]⟩ ⟨#[]⟩ false false [.mk 1 0 ⟨#[]⟩ 0 [],.mk 1 1 ⟨#[]⟩ 0 []] [] [] []],false,[]⟩]
def alT_b:ByteArray:=⟨#[102,110,32,102,40,110,117,109,32,110,41,32,123,32,98,117,102,32,98,91,49,93,59,32,105,102,32,110,32,123,32,109,111,118,101,32,99,32,61,32,98,59,32,125,32,108,101,116,32,120,32,61,32,35,98,59,32,125,59]⟩
def alF_b:List Fu:=[⟨⟨#[102]⟩,[⟨⟨#[110]⟩,false,false,false⟩],[.mk 3 ⟨#[98]⟩ ⟨#[]⟩ false false [.mk 1 1 ⟨#[]⟩ 0 []] [] [] [],.mk 5 ⟨#[]⟩ ⟨#[]⟩ false false [.mk 2 0 ⟨#[110]⟩ 0 []] [] [.mk 9 ⟨#[99]⟩ ⟨#[98]⟩ false false [] [] [] []] [],.mk 1 ⟨#[120]⟩ ⟨#[]⟩ false false [.mk 4 0 ⟨#[98]⟩ 0 []] [] [] []],false,[]⟩]
def alT_c:ByteArray:=⟨#[102,110,32,102,40,41,32,123,32,98,117,102,32,98,91,49,93,59,32,102,111,114,32,105,32,60,32,50,32,123,32,109,111,118,101,32,99,32,61,32,98,59,32,125,32,125,59]⟩
def alF_c:List Fu:=[⟨⟨#[102]⟩,[],[.mk 3 ⟨#[98]⟩ ⟨#[]⟩ false false [.mk 1 1 ⟨#[]⟩ 0 []] [] [] [],.mk 7 ⟨#[105]⟩ ⟨#[]⟩ false false [.mk 1 2 ⟨#[]⟩ 0 []] [] [.mk 9 ⟨#[99]⟩ ⟨#[98]⟩ false false [] [] [] []] []],false,[]⟩]
def alT_d:ByteArray:=⟨#[102,110,32,102,40,110,117,109,32,110,41,32,123,32,98,117,102,32,98,91,49,93,59,32,105,102,32,110,32,123,32,109,111,118,101,32,99,32,61,32,98,59,32,125,32,101,108,115,101,32,123,32,109,111,118,101,32,100,32,61,32,98,59,32,125,32,125,59]⟩
def alF_d:List Fu:=[⟨⟨#[102]⟩,[⟨⟨#[110]⟩,false,false,false⟩],[.mk 3 ⟨#[98]⟩ ⟨#[]⟩ false false [.mk 1 1 ⟨#[]⟩ 0 []] [] [] [],.mk 5 ⟨#[]⟩ ⟨#[]⟩ false false [.mk 2 0 ⟨#[110]⟩ 0 []] [] [.mk 9 ⟨#[99]⟩ ⟨#[98]⟩ false false [] [] [] []] [.mk 9 ⟨#[100]⟩ ⟨#[98]⟩ false false [] [] [] []]],false,[]⟩]
theorem alP_a:parseQ alT_a=some alF_a:=by kernel_rfl
theorem alC_a:errV (layM alF_a 4)=faultV 3 140:=by kernel_rfl
theorem alZ_a:Fu.sizes alF_a≤900:=by rw[show Fu.sizes alF_a=_ from rfl];decide
theorem alP_b:parseQ alT_b=some alF_b:=by kernel_rfl
theorem alC_b:errV (layM alF_b 4)=faultV 4 140:=by kernel_rfl
theorem alZ_b:Fu.sizes alF_b≤900:=by rw[show Fu.sizes alF_b=_ from rfl];decide
theorem alP_c:parseQ alT_c=some alF_c:=by kernel_rfl
theorem alC_c:errV (layM alF_c 4)=faultV 3 140:=by kernel_rfl
theorem alZ_c:Fu.sizes alF_c≤900:=by rw[show Fu.sizes alF_c=_ from rfl];decide
theorem alP_d:parseQ alT_d=some alF_d:=by kernel_rfl
theorem alC_d:errV (layM alF_d 4)= .nilIface:=by kernel_rfl
theorem alZ_d:Fu.sizes alF_d≤900:=by rw[show Fu.sizes alF_d=_ from rfl];decide
theorem toldT_any (s:ByteArray) (xs:List Fu) (r:Int×Int) (w:World) (hp:parseQ s=some xs) (hl:errV (layM xs 4)=errV r) (hz:Fu.sizes xs≤900) (h16:xs.length≤16) (hg:w.cell? ⟨0,0,none⟩=some (rty 30)):
  Calls Tryz.prog 39 #[.string s,.int .i64 r.1,.int .i64 r.2] w fun e w'=>e= .returned (.bool true)∧Fr Non w w':=by
 have HG:=Zh hg;clear hg;have HP:=Zh (qparsed_any s xs w hp);clear hp;have HL:=Zh hl;clear hl;go_enter Tryz.func39,Tryz.ntmps39;go_wp2_with fail;refine HP.out.mono ?_;rintro e w2 ⟨A,c,rfl,hc,hf2,hr2⟩;have F2:=Zh hf2;have S2:=Zh (lay4_any xs _ A c w2 hr2 (by unfold reach;omega) hc hz fun q hq=>hq.2);clear hf2 hr2 hc HP;go_wp2_with fail;refine S2.out.mono ?_;rintro e w3 ⟨rfl,hf3⟩;rw[HL.out];have F3:=Zh (F2.out.trans hf3);clear hf3 S2 F2;have T3:=Zh (told_any r w3 (F3.out.cell' HG.out (non _)));obtain⟨v,hv⟩:∃v,errV r=v:=⟨_,rfl⟩;rw[hv] at T3 ⊢;clear hv;go_wp2_with fail;refine T3.out.mono ?_;rintro e w4 ⟨rfl,hf4⟩;have F4:=Zh (F3.out.trans hf4);clear hf4 T3 F3;go_wp2_with fail;go_ret;exact⟨rfl,F4.out⟩
theorem alive_any (w:World) (hg:w.cell? ⟨0,0,none⟩=some (rty 30)):Calls Tryz.prog 23 #[] w fun e w'=>e= .returned (.bool true)∧Fr Non w w':=by
 have HG:=Zh hg;clear hg;have hq0:=Zh (fun w=>toldT_any alT_a alF_a (3,140) w alP_a (by rw[alC_a];rfl) alZ_a (by decide));have hq1:=Zh (fun w=>toldT_any alT_b alF_b (4,140) w alP_b (by rw[alC_b];rfl) alZ_b (by decide));have hq2:=Zh (fun w=>toldT_any alT_c alF_c (3,140) w alP_c (by rw[alC_c];rfl) alZ_c (by decide));have hq3:=Zh (fun w=>toldT_any alT_d alF_d (0,0) w alP_d (by rw[alC_d];rfl) alZ_d (by decide));simp only[alT_a,alT_b,alT_c,alT_d] at hq0 hq1 hq2 hq3;go_enter Tryz.func23,Tryz.ntmps23;go_wp2_with fail;refine(hq0.out _ HG.out).mono ?_;rintro e w1 ⟨rfl,hf⟩;have F1:=Zh hf;clear hf;go_wp2_with fail;refine(hq1.out _ (F1.out.cell' HG.out (non _))).mono ?_;rintro e w2 ⟨rfl,hf⟩;have F2:=Zh (F1.out.trans hf);clear hf;go_wp2_with fail;refine(hq2.out _ (F2.out.cell' HG.out (non _))).mono ?_;rintro e w3 ⟨rfl,hf⟩;have F3:=Zh (F2.out.trans hf);clear hf;go_wp2_with fail;refine(hq3.out _ (F3.out.cell' HG.out (non _))).mono ?_;rintro e w4 ⟨rfl,hf⟩;have F4:=Zh (F3.out.trans hf);clear hf;go_wp2_with fail;go_ret;exact⟨rfl,F4.out⟩
theorem lnames_any (P:List Fu) (ok:Nat→Prop) (A:Option Addr) (c:Nat) (w:World) (hr:RdRows ok w 5 A 0 (P.map Fu.d)) (hc:P.length*96≤reach) (hpc:P.length≤c) (hok:∀q,ok q→q<w.heap.size)
   (hg:w.cell? ⟨0,0,none⟩=some (rty 30)) (tb:Int) (ht:w.cell? ⟨1,2,none⟩=some (.int .u64 tb)):
  Calls Tryz.prog 8 #[.agg #[.slice A P.length c]] w fun e w'=>e= .returned (.bool true)∧Fr Non w w':=by
 obtain⟨W1,HW1⟩:∃W1,W1=w.alloc (.cells #[.slice A P.length c] 24):=⟨_,rfl⟩;have hf1:Fr Non w W1:=by rw[HW1];exact(Zf w).alloc _
 have B1:=Zh (show W1.heap[w.heap.size]? =some (.cells #[.slice A P.length c] 24 (0,0)) by rw[HW1];exact blk_new _ _ _);have R1:=Zh (hr.fr hf1 (fun _ _=>non _) fun _ h=>h);have G1:=Zh (hf1.cell' hg (non _));have T1:=Zh (hf1.cell' ht (non _));have F1:=Zh hf1;have hok1:=Zh (show∀q,ok q→q<W1.heap.size from fun q hq=>by have:=hok q hq;have:=hf1.size;omega);clear hf1 hr hg ht;have x1:=(Zc B1.out).1 0 _ rfl;have HC:=Zh hc;have HPC:=Zh hpc
 clear hc hpc hok;go_enter Tryz.func8,Tryz.ntmps8;go_upto_region 1 with fail;rw[←HW1];clear HW1;go_wp2_with fail;refine(large08_any P ok A c W1 R1.out HC.out hok1.out).mono ?_;rintro e w2 ⟨⟨b,rfl,hb⟩,hf2⟩;have F2:=Zh (F1.out.trans hf2);have G2:=Zh (hf2.cell' G1.out (non _));have T2:=Zh (hf2.cell' T1.out (non _));have R2:=Zh (R1.out.fr hf2 (fun _ _=>non _) fun _ h=>h);have B2:=Zh (Zb B1.out hf2 (non _));have hok2:=Zh (show∀q,ok q→q<w2.heap.size from fun q hq=>by have:=hok1.out q hq;have:=hf2.size;omega);clear hf2 F1 G1 T1 R1 B1 x1;cases b
 case true=>
  go_wp2_with fail;refine(alive_any w2 G2.out).mono ?_;rintro e w3 ⟨rfl,hf3⟩;have F3:=Zh (F2.out.trans hf3);clear hf3;go_wp2_with fail;go_ret;exact⟨rfl,F3.out⟩
 case false=>
  obtain⟨hl30,hs9,hli⟩:=hb rfl;have HS:=Zh hs9;have HLI:=Zh hli;clear hs9 hli hb
  have x2:=(Zc B2.out).1 0 _ rfl;go_wp2_with fail;refine(mayP_any P ok A c w2 R2.out HC.out (by have:=HS.out;omega)).mono ?_;rintro e w3 ⟨rfl,hf3⟩;have F3:=Zh (F2.out.trans hf3);have G3:=Zh (hf3.cell' G2.out (non _));have T3:=Zh (hf3.cell' T2.out (non _));have R3:=Zh (R2.out.fr hf3 (fun _ _=>non _) fun _ h=>h);have B3:=Zh (Zb B2.out hf3 (non _));have hok3:=Zh (show∀q,ok q→q<w3.heap.size from fun q hq=>by have:=hok2.out q hq;have:=hf3.size;omega);clear hf3 F2 G2 T2 R2 B2 x2 hok2;cases hm:mayM P
  ·go_wp2_with fail;refine(alive_any w3 G3.out).mono ?_;rintro e w4 ⟨rfl,hf4⟩;have F4:=Zh (F3.out.trans hf4);clear hf4;go_wp2_with fail;go_ret;exact⟨rfl,F4.out⟩
  ·have HM:=Zh hm;have HMR:=Zh (mayM_rn P hm);have HNM:=Zh (nmss_bd P hm HLI.out);clear hm;have x3:=(Zc B3.out).1 0 _ rfl;go_wp2_with fail;refine(renamed_any P ok A c w3 R3.out HPC.out HC.out hok3.out HNM.out).mono ?_;rintro e w4 ⟨A4,c4,rfl,hf4,hc4,hr4⟩;have F4:=Zh (F3.out.trans hf4);have G4:=Zh (hf4.cell' G3.out (non _));have T4:=Zh (hf4.cell' T3.out (non _));have R4:=Zh (R3.out.fr hf4 (fun _ _=>non _) fun _ h=>h);have B4:=Zh (Zb B3.out hf4 (non _));have hok4:=Zh (show∀q,ok q→q<w4.heap.size from fun q hq=>by have:=hok3.out q hq;have:=hf4.size;omega);have O4:=Zh hr4;have hon4:=Zh (show∀q,New w3.heap.size w4 q→q<w4.heap.size from fun q hq=>hq.2);have HC4:=Zh (show(renP P).length≤c4 by rw[renP_length];exact hc4);have HCR:=Zh (show(renP P).length*96≤reach by rw[renP_length];exact HC.out);have HSR:=Zh (show Fu.sizes (renP P)≤900 by unfold renP;rw[fsizes_rn];exact HS.out);have hln:P.length=(renP P).length:=(renP_length P).symm;clear hf4 hr4 hc4 F3 G3 T3 R3 B3 x3 hok3;obtain⟨w5,HW5⟩:∃w5,w5=w4.alloc (.cells #[.slice A4 P.length c4] 24):=⟨_,rfl⟩;have hf5:Fr Non w4 w5:=by rw[HW5];exact(Zf w4).alloc _
   have C5:=Zh (show w5.heap[w4.heap.size]? =some (.cells #[.slice A4 (renP P).length c4] 24 (0,0)) by rw[HW5,←hln];exact blk_new _ _ _);have F5:=Zh (F4.out.trans hf5);have G5:=Zh (hf5.cell' G4.out (non _));have T5:=Zh (hf5.cell' T4.out (non _));have R5:=Zh (R4.out.fr hf5 (fun _ _=>non _) fun _ h=>h);have B5:=Zh (Zb B4.out hf5 (non _));have O5:=Zh (O4.out.fr hf5 (fun _ _=>non _) fun _ h=>h);have hok5:=Zh (show∀q,ok q→q<w5.heap.size from fun q hq=>by have:=hok4.out q hq;have:=hf5.size;omega);have hon5:=Zh (show∀q,New w3.heap.size w4 q→q<w5.heap.size from fun q hq=>by have:=hon4.out q hq;have:=hf5.size;omega);clear hf5 F4 G4 T4 R4 B4 O4 hok4 hon4 hln;go_upto_region 4 with fail;rw[←HW5];clear HW5;have x5:=ext_cell ((Zc C5.out).1 0 _ rfl);have y5:=ext_cell ((Zc B5.out).1 0 _ rfl);have bd:=layM_bd P 4;have M5:=Zh (fun x=>mayP_any (renP P) _ A4 c4 (ext w5 x) (O5.out.fr (ext_fr w5 x) (fun _ _=>non _) fun _ h=>h) HCR.out (by have:=HSR.out;omega));have K5:=Zh (fun x=>lay4_any P ok A c (ext w5 x) (R5.out.fr (ext_fr w5 x) (fun _ _=>non _) fun _ h=>h) HC.out HPC.out HS.out (fun q hq=>by have:=hok5.out q hq;have:=(ext_fr w5 x).size;omega));have N5:=Zh (fun x=>lay4_any (renP P) _ A4 c4 (ext w5 x) (O5.out.fr (ext_fr w5 x) (fun _ _=>non _) fun _ h=>h) HCR.out HC4.out HSR.out (fun q hq=>by have:=hon5.out q hq;have:=(ext_fr w5 x).size;omega));have V5:=Zh (fun x=>alive_any (ext w5 x) (ext_cell G5.out x));have S5:=Zh (fun x=>alike_any (layM P 4) bd.1 bd.2.1 bd.2.2.1 bd.2.2.2 tb (ext w5 x) (ext_cell T5.out x));rw[HMR.out] at M5;rw[lay_names P HM.out 4] at N5;generalize errV (layM P 4)=EV at K5 N5 S5;clear bd;refine wp_region_ext (by kernel_rfl) (by kernel_rfl) ?_
   repeat (go_big_quiet_step (fail))
   go_big_quiet_want;go_big_quiet_op;apply Exists.intro;refine⟨fun x=>?_,?_⟩
   ·exact calls_ext (M5.out x)
   go_big_quiet_on
   repeat (go_big_quiet_step (fail))
   go_big_quiet_want;go_big_quiet_op;apply Exists.intro;refine⟨fun x=>?_,?_⟩
   ·exact calls_ext (K5.out x)
   go_big_quiet_on
   repeat (go_big_quiet_step (fail))
   go_big_quiet_want;go_big_quiet_op;apply Exists.intro;refine⟨fun x=>?_,?_⟩
   ·exact calls_ext (N5.out x)
   go_big_quiet_on
   repeat (go_big_quiet_step (fail))
   go_big_quiet_want;go_big_quiet_op;apply Exists.intro;refine⟨fun x=>?_,?_⟩
   ·exact calls_ext (S5.out x)
   go_big_quiet_on
   repeat (go_big_quiet_step (fail))
   go_big_quiet_want;go_big_quiet_op;apply Exists.intro;refine⟨fun x=>?_,?_⟩
   ·exact calls_ext (V5.out x)
   go_big_quiet_on
   repeat (go_big_quiet_step (fail))
   refine wpQuiet_nil ?_;intro w6 hf6;have F6:=Zh (F5.out.trans hf6);clear hf6;go_wp2_with fail;go_ret;exact⟨rfl,F6.out⟩
section
open Go.ChangeShapes Go.WideShapes
theorem names_lifted (os:Os) (started:os.Started) (H:Type) (enc:TypeId×Value→H):
  ReturnsInHanded {} Tryz.checked os 8 .any (fun w args=>(Rows.movesNamesSpec.pre enc Tryz.prog Tryz.f8 [] false w args∧laidMetH Tryz.prog [("errors.errorType",Rows.laid_errors_errorType)] w)∧sizedMet enc Tryz.prog Tryz.f8 (OpenSpec.ofChange Rows.movesNamesSpec) false w args)
   (Rows.movesNamesSpec.post enc Tryz.prog Tryz.f8 false true false false):=by
 refine lifted_shaped (C:=Tryz.checked) (X:=fun w _=>laidMetH Tryz.prog [("errors.errorType",Rows.laid_errors_errorType)] w) (fun _ _ _ hh h=>h.of_heap hh) own_knob started (by kernel_rfl) Tryz.func8
  (ChangeSpec.witness_at (enc:=enc) (C:=Tryz.checked) (os:=os) (X:=fun w _=>laidMetH Tryz.prog [("errors.errorType",Rows.laid_errors_errorType)] w) false (laidWorld os) #[.agg #[.slice none 0 0]] 8 rfl (by kernel_rfl) (by kernel_rfl) (by kernel_rfl) (by kernel_rfl) (by kernel_rfl) (laidWorld_met os _)) ?_
 intro W base args ds gs before hsh hval0 hW hsz hL;obtain⟨tb,htb⟩:=tab_of_shaped hsh;have hval:∀(j:Nat) t v,Tryz.f8.params[j]? =some t→args[j]? =some v→Value.okWide Tryz.prog W .any base t v:=hval0;have hW':=hW;obtain⟨p,q,hA0,hV0,rfl,hfz,hnd⟩:=hW;have hA:DataW.TrodAll enc Tryz.prog W 0 (fun _=>true) true Tryz.f8.params.toList args.toList ds p:=hA0;have hV:DataW.TrodVars enc Tryz.prog W (fun _=>true) [] gs q:=hV0;rw[Tryz.params8] at hA hval;obtain⟨v0,d0,rfl,rfl,h0⟩:=trodAll_one hA;obtain⟨rfl,rfl⟩:gs=[]∧q=[]:=by
  cases gs with
  |nil=>exact⟨rfl,hV⟩
  |cons g r=>exact absurd hV (by intro h;cases h)
 have hval1:=hval 0 24 v0 rfl rfl;obtain⟨cs,rfl⟩:∃cs,v0= .agg cs:=by
  unfold Value.okWide at hval1;rw[Tryz.underlying24] at hval1;obtain⟨cs,h,_⟩:=hval1;exact⟨cs,h⟩
 have h0k:=h0;obtain⟨fuel,hf⟩:=h0;have hlight:Light (d0.weights Tryz.prog 24):=by
  have hsz':(DataW.weightsEach Tryz.prog (Tryz.f8.params.toList++Rows.movesNamesSpec.plain.varTypes Tryz.prog) ([d0]++[])).all (· ≤reachBytes)=true:=hsz;rw[Tryz.params8] at hsz';have:Light (DataW.weightsEach Tryz.prog (#[24].toList++Rows.movesNamesSpec.plain.varTypes Tryz.prog) ([d0]++[])):=hsz';exact Light.left this
 obtain⟨P,A,c,hcs,hc1,hc2,hrd⟩:=op_prog fuel (.agg cs) _ _ hf hlight;have hcs':cs=#[.slice A P.length c]:=by
  have:cs.toList=[.slice A P.length c]:=hcs;rw[←Array.toList_inj];exact this
 subst hcs';refine(lnames_any P (InW W) A c W hrd hc2 hc1 (fun q hq=>hq) (handle_of_laid hL) tb htb).mono fun e W' ⟨he,hw⟩=>?_;subst he;have e1:Rows.movesNamesSpec.fn H ([d0]++[])={results:=[.lit (.bool true)],args:=[d0]}:=by simp[Rows.movesNamesSpec]
 have hlt:∀x∈p,x.block<W.heap.size:=fun x hx=>hW'.lt x (by simpa using hx);refine⟨_,rfl,post_of_fr hw hW' ?_ ?_ ?_ ?_⟩
 ·intro b sp hd;rw[e1];exact trodAll_mk1 (shut_bool Tryz.underlying4 true)
 ·intro sp hsp;rw[e1,List.append_nil,Tryz.params8];exact trodAll_mk1 (WideElems.Trod_stays laidOut readProg rowProg h0k (fun x hx=>hw.below.same (hlt x hx)) (fun x hx=>hsp x (by simpa using hx)))
 ·intro sp;rw[e1];rfl
 ·exact ok_one (by kernel_rfl) rfl (okWide_bool_mk Tryz.underlying4 true)
end
theorem movesNames_row_holds:Rows.MovesNamesSaid:=
 OpenClaim.holds_of_wide 8 Tryz.f8 rfl rfl rfl rfl rfl rfl rfl ⟨rfl,rfl,rfl,rfl,rfl⟩ rfl rfl rfl rfl rfl (by kernel_rfl) Tryz.func8 (by kernel_rfl)
  (of_decide_eq_true (by kernel_rfl)) (by unfold Func.isWrapper;rw[if_neg (of_decide_eq_false (by kernel_rfl))];exact⟨rfl,rfl⟩)
  (fun os started H enc _=>names_lifted os started H enc)
theorem movesNames_card_holds:Rows.MovesNamesCardSaid:=
 Claim7.holds_tied_plain_at .later [] [.handle] true (true,"7f6c163b6908de3d1b2709be3c4be9f478e893cac8f2eb548d1e6999b29bbbc5") true
  movesNames_row_holds (fun _ h=>by cases h) (by kernel_rfl) (fun _ h=>by cases h) movesNames_row_tie rfl ⟨rfl,rfl⟩ (by kernel_rfl) rfl
  (fun f fn hf hfn=>by
    obtain rfl:f=8:=Option.some.inj ((show Tryz.prog.funcNamed "sacristy/sacristylaw14.MovesNames"=some 8 by kernel_rfl).symm.trans hf) |>.symm;obtain rfl:fn=Tryz.f8:=(Option.some.inj (Tryz.func8.symm.trans hfn)).symm;exact⟨by kernel_rfl,fun j t ht=>by
     rw[Tryz.params8] at ht;have h3:t=24:=by
      rcases j with _|j
      ·simpa using ht.symm
      ·simp at ht
     subst h3;exact(show Tryz.prog.wantsStandIn 24=false by kernel_rfl)⟩)
  (by kernel_rfl)
#print axioms movesNames_card_holds
end Go.Proofs.YtgiomfnpkkdknaaGreatDoor
