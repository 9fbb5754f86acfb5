/- Contracts and laws, Mg21 -/
import Derived.Test.YtpkpgmnbheenbaaGreatDoorMg01
import Derived.Test.YtpkpgmnbheenbaaGreatDoorMg02
import Derived.Test.YtpkpgmnbheenbaaGreatDoorMg03
import Derived.Test.YtpkpgmnbheenbaaGreatDoorMg05
import Derived.Test.YtpkpgmnbheenbaaGreatDoorMg20
import Derived.Deep.DeepCutAuto
import Derived.Deep.CutBlock
namespace Go.Proofs.YtpkpgmnbheenbaaGreatDoor
open Go.RowKit
set_option linter.unusedVariables false
set_option linter.unusedSimpArgs false
set_option maxHeartbeats 8000000
set_option maxRecDepth 100000
theorem appR_of {t e:TypeId} {z:Value} {size bytes:Nat} (ht:Tryz.prog.underlying t=some (.slice e)) (hi:(Tryz.prog.info? e).map (fun i=>(i.zero,i.size,i.bytes))=some (some z,size,bytes)) (hzs:z.cells.size=size) (hsz:0<size) (ty:TypeId)
  (ok:Nat→Prop) (base:Nat) (v:Value) (w:World) (l:List (List D)) (hown:OwnX ok base e size w v l) (hokb:∀k,ok k→k<base) (A:Option Addr) (c:Nat) (l':List (List D)) (hrd:RdRows ok w size A 0 l') (hone:∀ds∈l',∀d∈ds,d.one)
  (h63:l.length+l'.length≤maxLen) (hbytes:((l.length+l'.length)+(l.length+l'.length) / 4+192)*bytes≤281474976710656) (hbase:base≤w.heap.size):
  ∃v' w',(Builtin.append_ #[t,t] ty #[v,.slice A l'.length c]).run Tryz.prog w= .ok v' w'∧OwnX ok base e size w' v' (l++l')∧Fr (fun k=>base≤k∧v.ownBlock=some k) w w':=by
 obtain⟨i0,h0,h1,h2,h3⟩:=info_parts hi;obtain⟨xs,hrow,hcs⟩:=hown;cases A with
 |some ad=>
  obtain⟨us,hch,hce⟩:∃us,Chunks ok w size l' us∧∀j u,us[j]? =some u→w.cell? (ad.add j)=some u:=by
   by_cases hne:l'=[]
   ·subst hne;exact⟨[],rfl,fun j u hu=>by simp at hu⟩
   ·obtain⟨ad',us,e,g1,g2⟩:=hrd.src hne;cases e;exact⟨us,g1,g2⟩
  obtain⟨v',w',hr,hrow',hg,hwh⟩:=run_append_where (P:=Tryz.prog) w base t ty e i0 z size bytes ht h0 h1 h2 h3 hzs hsz v l.length xs hrow ad l'.length c us hch.length hce (hch.ones hone) h63 hbytes hbase;have hfr:Fr (fun k=>base≤k∧v.ownBlock=some k) w w':=⟨hg.os,hg.tape,hg.output,hg.size,fun k hk hn=>hg.block k hk fun e=>hn ⟨(hrow.lt k e.symm).1,e.symm⟩⟩;have key:∀b o u,ok b→w.cell? ⟨b,o,none⟩=some u→w'.cell? ⟨b,o,none⟩=some u:=fun b o u hb hc=>hfr.cell' hc fun hx=>by have h8:=hokb b hb;have h9:base≤b:=hx.1;omega
  exact⟨v',w',hr,⟨xs++us,by rw[List.length_append];exact hrow',Chunks.append (hch.mono key fun _ h=>h) (hcs.mono key fun _ h=>h)⟩,hfr⟩
 |none=>
  have hne:l'=[]:=by
   cases l' with
   |nil=>rfl
   |cons ds l'=>obtain⟨⟨b,o,e,_⟩,_⟩:=hrd;cases e
  subst hne;have hr:(Builtin.append_ #[t,t] ty #[v,.slice none ([]:List (List D)).length c]).run Tryz.prog w= .ok v w:=by
   rcases hrow.2 with⟨rfl,h9⟩|⟨g,cap,cur,rfl,_,_,hnc,_⟩
   ·simp[Builtin.append_,run_underlying ht,sizeOf,typeInfo,h0,Builtin.lenOf,Builtin.firstCells]
   ·simp[Builtin.append_,run_underlying ht,sizeOf,typeInfo,h0,Builtin.lenOf,Builtin.firstCells,hnc,storeCells]
  exact⟨v,w,hr,by rw[List.append_nil];exact⟨xs,hrow,hcs⟩,Fr.refl _ _⟩
theorem appR_st (ok:Nat→Prop) (base:Nat) (v:Value) (w:World) (l:List St) (hown:OwnX ok base 42 9 w v (St.ds l)) (hokb:∀k,ok k→k<base) (A:Option Addr) (c:Nat) (l':List St) (hrd:RdRows ok w 9 A 0 (St.ds l'))
  (hl:l.length≤900) (hq:l'.length*144≤reach) (hbase:base≤w.heap.size):
  ∃A' c' w',(Builtin.append_ #[40,40] 40 #[v,.slice A l'.length c]).run Tryz.prog w= .ok (.slice A' (l++l').length c') w'∧OwnX ok base 42 9 w' (.slice A' (l++l').length c') (St.ds (l++l'))∧Fr (fun k=>base≤k∧v.ownBlock=some k) w w':=by
 have h1:(St.ds l).length=l.length:=by rw[St.ds_eq,List.length_map]
 have h2:(St.ds l').length=l'.length:=by rw[St.ds_eq,List.length_map]
 have h3:St.ds l++St.ds l'=St.ds (l++l'):=by rw[St.ds_eq,St.ds_eq,St.ds_eq,List.map_append]
 have h4:(St.ds (l++l')).length=(l++l').length:=by rw[St.ds_eq,List.length_map]
 obtain⟨v',w',g1,g2,g3⟩:=appR_of (z:=stZ) (t:=40) (e:=42) (size:=9) (bytes:=144) (by kernel_rfl) (by kernel_rfl) rfl (by decide) 40 ok base v w (St.ds l) hown hokb A c (St.ds l') hrd (one_sts _) (by rw[h1,h2];unfold reach at hq;unfold maxLen;omega) (by rw[h1,h2];unfold reach at hq;omega) hbase;rw[h2] at g1;rw[h3] at g2;obtain⟨A',c',rfl,_⟩:=g2.slice;rw[h4] at g1 g2;exact⟨A',c',w',g1,g2,g3⟩
theorem inner_append (l r:List St):inner (l++r)=inner l+inner r:=by simp[inner]
theorem inner_drop (l:List St) (j:Nat) (h:j<l.length):inner (l.drop j)=(St.sizes l[j].body+St.sizes l[j].els)+inner (l.drop (j+1)):=by
 rw[List.drop_eq_getElem_cons h,inner,List.map_cons,List.sum_cons];rfl
theorem sizes_append (l r:List St):St.sizes (l++r)=St.sizes l+St.sizes r:=by rw[←inner_all,←inner_all l,←inner_all r,inner_append,List.length_append];omega
theorem work_step (l:List St) (j:Nat) (h:j<l.length):(l++l[j].body++l[j].els).length+inner ((l++l[j].body++l[j].els).drop (j+1))=l.length+inner (l.drop j):=by
 rw[inner_drop l j h,List.append_assoc,List.drop_append_of_le_length (by omega),inner_append,inner_append,List.length_append,List.length_append,←inner_all l[j].body,←inner_all l[j].els];omega
theorem fsizes_top (P:List Fu):∀j,St.sizes ((P.take j).flatMap fun f=>f.body)=Fu.sizes (P.take j):=by
 intro j;generalize P.take j=l
 induction l with
 |nil=>rfl
 |cons f l ih=>simp only[List.flatMap_cons,Fu.sizes,Fu.size] at ih ⊢;rw[sizes_append,ih]
theorem OwnX.lt {ok:Nat→Prop} {base:Nat} {e:TypeId} {sz:Nat} {w:World} {v:Value} {l:List (List D)} (h:OwnX ok base e sz w v l) (k:Nat) (hk:v.ownBlock=some k):k<w.heap.size:=by
 obtain⟨xs,h1,_⟩:=h;exact(h1.lt k hk).2
theorem app_step {P:Program} {ops:Array Oper} {o:Oper} {a:Act} {K:Act→World→Prop} {Q:Exit→Act→World→Prop} {w w':World} {t:TypeId} {v u v':Value} (hgd:o.guard=none) (s x:Operand)
  (ho:o.op= .call {callee:=.builtin .append,args:=#[s,x],argTypes:=#[t,t]}) (hs:a.eval s=v) (hx:a.eval x=u) (hr:(Builtin.append_ #[t,t] o.type #[v,u]).run P w= .ok v' w')
  (h:K (a.put o.dst v') w'):if Region.wanted o (yielded ops a.tmps)=true then Oper.wp P o a w K Q else K (a.put o.dst undef) w:=by
 rw[if_pos (by simp[Region.wanted,hgd])];unfold Oper.wp execOp;simp only[ho,resolve,invoke,builtin,Sem.run_bind,Sem.run_pure,Result.andThen_ok,List.map_toArray,List.map_cons,List.map_nil,hs,hx,hr];exact h
mutual
def St.light:St→Prop
 | .mk _ _ _ _ _ ex _ body els=>(∀e∈ex,e.size≤2000)∧St.lights body∧St.lights els
def St.lights:List St→Prop
 |[]=>True
 |s::l=>s.light∧St.lights l
end
theorem St.light_eq (s:St):s.light=((∀e∈s.ex,e.size≤2000)∧St.lights s.body∧St.lights s.els):=by cases s;rfl
theorem lights_iff:∀l:List St,St.lights l↔∀s∈l,s.light
 |[]=>by simp[St.lights]
 |s::l=>by simp[St.lights,lights_iff l]
theorem lights_append (l r:List St):St.lights (l++r)↔St.lights l∧St.lights r:=by
 rw[lights_iff,lights_iff,lights_iff];simp only[List.mem_append];exact⟨fun h=>⟨fun s hs=>h s (.inl hs),fun s hs=>h s (.inr hs)⟩,fun h s hs=>hs.elim (h.1 s) (h.2 s)⟩
theorem lights_step (l:List St) (j:Nat) (h:j<l.length) (hx:∀e∈l[j].ex,e.size≤2000) (hd:St.lights ((l++l[j].body++l[j].els).drop (j+1))):St.lights (l.drop j):=by
 rw[List.append_assoc,List.drop_append_of_le_length (by omega),lights_append,lights_append] at hd;rw[List.drop_eq_getElem_cons h,St.lights,St.light_eq];exact⟨⟨hx,hd.2.1,hd.2.2⟩,hd.1⟩
def Rets (l:List Fu):Prop:=∀f∈l,∀e∈f.ret,e.size≤2000
theorem rets_snoc {l:List Fu} {f:Fu} (h:Rets l) (hf:∀e∈f.ret,e.size≤2000):Rets (l++[f]):=by
 intro g hg;rcases List.mem_append.1 hg with hg|hg
 ·exact h g hg
 ·rw[List.mem_singleton.1 hg];exact hf
def Fu.light (f:Fu):Prop:=St.lights f.body∧∀e∈f.ret,e.size≤2000
theorem lights_flat:∀(P:List Fu),St.lights (P.flatMap fun f=>f.body)→Rets P→∀f∈P,f.light
 |[],_,_,f,hf=>by cases hf
 |g::P,h,hr,f,hf=>by
  rw[List.flatMap_cons,lights_append] at h;rcases List.mem_cons.1 hf with rfl|hf
  ·exact⟨h.1,hr f (by simp)⟩
  ·exact lights_flat P h.2 (fun g' hg'=>hr g' (by simp[hg'])) f hf
theorem all_till {l:List Ex} {k:Nat} (hk:l.length≤k) (h:∀i (hi:i<l.length),i<k→l[i].size≤2000):∀e∈l,e.size≤2000:=fun e he=>by
 obtain⟨i,hi,rfl⟩:=List.mem_iff_getElem.1 he;exact h i hi (by omega)
theorem till_snoc {l:List Ex} {k:Nat} (h:∀i (hi:i<l.length),i<k→l[i].size≤2000) (hk:∀hk:k<l.length,l[k].size≤2000):∀i (hi:i<l.length),i<k+1→l[i].size≤2000:=fun i hi hik=>by
 rcases Nat.lt_or_eq_of_le (Nat.le_of_lt_succ hik) with h'|rfl
 ·exact h i hi h'
 ·exact hk hi
def LargeR (P:List Fu) (e:Ending):Prop:=∃b,e= .returned (.bool b)∧(b=false→P.length≤30∧Fu.sizes P≤900∧∀f∈P,f.light)
theorem largeT {P:List Fu} {v:Value} (h:v= .bool true):LargeR P (.returned v):=⟨true,by rw[h],fun h=>by cases h⟩
theorem largeB {P:List Fu} {b:Bool} {v:Value} (h:v= .bool b) (hb:b=false→P.length≤30∧Fu.sizes P≤900∧∀f∈P,f.light):LargeR P (.returned v):=⟨b,by rw[h],hb⟩
theorem large08_any (P:List Fu) (ok:Nat→Prop) (A:Option Addr) (c:Nat) (w:World) (hr:RdRows ok w 5 A 0 (P.map Fu.d)) (hc:P.length*96≤reach) (hok:∀q,ok q→q<w.heap.size):
  Calls Tryz.prog 12 #[.agg #[.slice A P.length c]] w fun e w'=>LargeR P e∧Fr Non w w':=by
 have hlen:P.length≤140737488355328:=by unfold reach at hc;omega
 have HOK:=Zh hok;clear hok;obtain⟨W1,HW1⟩:∃W1,W1=w.alloc (.cells #[.slice A P.length c] 24):=⟨_,rfl⟩;have hf1:Fr Non w W1:=by rw[HW1];exact(Zf w).alloc _
 have hb1:W1.heap[w.heap.size]? =some (.cells #[.slice A P.length c] 24 (0,0)):=by rw[HW1];exact blk_new _ _ _
 have hzW:W1.heap.size=w.heap.size+1:=by rw[HW1];simp
 have HR:=Zh (hr.fr hf1 (fun _ _=>non _) (fun _ h=>h));clear hr;have HF1:=Zh hf1;clear hf1;have HB1:=Zh hb1;clear hb1;go_enter Tryz.func12,Tryz.ntmps12;go_upto_region 1 with fail;rw[←HW1];clear HW1;go_upto_block 0 with fail
 go_cut [3,4,5] (fun v3 v4 v5 wx=>∃(R:List St) (n:Int),v3= .int .i64 n∧R.length≤900∧(P.length≤30→St.sizes R=Fu.sizes P∧R=P.flatMap (fun f=>f.body)∧Rets P)∧OwnX ok (w.heap.size+1) 42 9 wx v4 (St.ds R)∧Fr Non W1 wx)
 case first=>
  have hz1:w.heap.size<W1.heap.size:=blk_lt HB1.out;go_wp2_with fail
  go_loopw [3,4,5] (fun t v i wr=>∃(j:Nat) (n:Int),i= .int .i64 j∧t= .int .i64 n∧j≤P.length∧j≤40∧((P.take j).flatMap fun f=>f.body).length≤900∧Rets (P.take j)∧OwnX ok (w.heap.size+1) 42 9 wr v (St.ds ((P.take j).flatMap fun f=>f.body))∧Fr Non W1 wr) (fun _ _ i _=>P.length-(intOf i).toNat)
  case atStart=>exact⟨0,0,rfl,rfl,by omega,by omega,by simp,fun f hf=>by simp at hf,OwnX.nil _ _ _ _ _,Zf _⟩
  case round=>
   obtain⟨j,n,rfl,rfl,hj,hj4,hl9,hrt,how,hfr⟩:=hrel;have HRT:=Zh hrt;clear hrt;have g0:=hfr.cell' ((Zc HB1.out).1 0 _ rfl) (non _);have HTF:=Zh (fsizes_top P j);by_cases hlt:j<P.length
   ·by_cases h40:j<40
    ·obtain⟨b,o1,A1,c1,A2,c2,A3,c3,rfl,hb,e0,e1,e2,e3,e4,⟨p1,q1,r1⟩,⟨p2,q2,r2⟩,⟨p3,q3,r3⟩⟩:=at_fu (HR.out.fr hfr (fun _ _=>non _) (fun _ h=>h)) j hlt;have HTS:=Zh (take_snoc P j hlt);have hl1:P[j].params.length≤140737488355328:=by unfold reach at q1;omega
     have hl2:P[j].body.length≤140737488355328:=by unfold reach at q2;omega
     have hl3:P[j].ret.length≤140737488355328:=by unfold reach at q3;omega
     generalize hf:P[j]=f at*;clear hf;go_upto_region 8 with fail;obtain⟨W2,HW2⟩:∃W2,W2=wr.alloc (.cells #[.string f.name,.slice A1 f.params.length c1,.slice A2 f.body.length c2,.bool f.sec,.slice A3 f.ret.length c3] 53):=⟨_,rfl⟩;rw[←HW2];have hf2:Fr Non wr W2:=by rw[HW2];exact(Zf wr).alloc _
     have hbx:W2.heap[wr.heap.size]? =some (.cells #[.string f.name,.slice A1 f.params.length c1,.slice A2 f.body.length c2,.bool f.sec,.slice A3 f.ret.length c3] 53 (0,0)):=by rw[HW2];exact blk_new _ _ _
     clear HW2;have x2:=(Zc hbx).1 2 _ rfl;have hzr:W1.heap.size≤wr.heap.size:=hfr.size;have hz2:=hf2.size;have HBX:=Zh hbx;clear hbx;have HR1:=Zh (r1.fr hf2 (fun _ _=>non _) (fun _ h=>h));clear r1;have HR2:=Zh (r2.fr hf2 (fun _ _=>non _) (fun _ h=>h));clear r2;have HR3:=Zh (r3.fr hf2 (fun _ _=>non _) (fun _ h=>h));clear r3;have HOW:=Zh (how.fr hf2 (fun k _=>non k) (fun k _=>non k));have HLT:=Zh how.lt;clear how;have HF2:=Zh (hfr.trans hf2);clear hfr hf2 g0 e0 e1 e2 e3 e4;have hdl:(St.ds f.body).length=f.body.length:=by rw[St.ds_eq,List.length_map]
     go_wp2_with (at_builtin;refine appX_st rfl _ _ rfl ok (w.heap.size+1) u4 (St.ds ((P.take j).flatMap fun f=>f.body)) rfl HOW.out ?okb A2 c2 (St.ds f.body) (by rw[hdl];rfl) HR2.out (one_sts _) ?b1 ?b2 ?b3 ?k)
     case okb=>intro k hk;have:=HOK.out k hk;omega
     case b1=>rw[hdl,St.ds_eq,List.length_map];unfold reach at q2;unfold maxLen;omega
     case b2=>rw[hdl,St.ds_eq,List.length_map];unfold reach at q2;omega
     case b3=>omega
     case k=>
     intro v3 w3 hown3 hf3;have hbx3:=Zb HBX.out hf3 (by rintro⟨_,h2⟩;have:=HLT.out _ h2;omega);have HF3:=Zh (HF2.out.then hf3 fun k hk h=>by omega);have HR1':=Zh (HR1.out.fr hf3 (fun q hq h=>by have:=HOK.out q hq;omega) (fun _ h=>h));have HR3':=Zh (HR3.out.fr hf3 (fun q hq h=>by have:=HOK.out q hq;omega) (fun _ h=>h));have hz3:=hf3.size;clear hf3 x2;have hcat:St.ds ((P.take j).flatMap fun f=>f.body)++St.ds f.body=St.ds ((P.take (j+1)).flatMap fun f=>f.body):=by
      rw[HTS.out,List.flatMap_append,St.ds_eq,St.ds_eq,St.ds_eq,List.map_append];simp
     rw[hcat] at hown3;obtain⟨A4,c4,hv3,hc4⟩:=hown3.slice;have hdl4:(St.ds ((P.take (j+1)).flatMap fun f=>f.body)).length=((P.take (j+1)).flatMap fun f=>f.body).length:=by rw[St.ds_eq,List.length_map]
     rw[hdl4] at hv3 hc4;subst hv3;generalize hR:((P.take (j+1)).flatMap fun f=>f.body)=R at*;have HRR:=Zh hR;clear hR hdl4 hcat hdl;have HO3:=Zh hown3;clear hown3;have HBX3:=Zh hbx3;clear hbx3;obtain⟨wp,rfl⟩:∃wp:World,wp=wr:=⟨_,rfl⟩;go_upto_block 2 with fail
     go_cut [7] (fun v7 wx=>Fr Non w3 wx∧(f.ret.length≤20→∀e∈f.ret,e.size≤2000))
     case first=>
      go_wp2_with fail
      go_loopw [7] (fun i wq=>∃k:Nat,i= .int .i64 k∧k≤f.ret.length∧k≤20∧(∀i (hi:i<f.ret.length),i<k→f.ret[i].size≤2000)∧Fr Non w3 wq) (fun i _=>f.ret.length-(intOf i).toNat)
      case atStart=>exact⟨0,rfl,by omega,by omega,fun i _ h=>by omega,Zf _⟩
      case round=>
       obtain⟨k,rfl,hk,hk20,htl,hfq⟩:=hrel;have HTL:=Zh htl;clear htl;have hbq:=Zb HBX3.out hfq (non _);have x4:=(Zc hbq).1 4 _ rfl;by_cases hk1:k<f.ret.length
       ·by_cases hk2:k<20
        ·obtain⟨b5,o5,A5,c5,rfl,hb5,y0,y1,y2,y3,y4,y5,y6,y7⟩:=at_ex (HR3'.out.fr hfq (fun _ _=>non _) (fun _ h=>h)) k hk1;have HFQ:=Zh hfq;clear hfq;have HLG:=Zh (large07_any f.ret[k] ok A5 c5 wr y7 y5 y6 (fun q hq=>by have:=HOK.out q hq;have:=HFQ.out.size;omega));clear y5 y6 y7 hbq;go_wp2_with fail;refine HLG.out.mono ?_;rintro e w5 ⟨⟨b6,rfl,hb6⟩,hf5⟩;have HB6:=Zh hb6;clear hb6;have HF5:=Zh (HFQ.out.trans hf5);clear hf5;cases b6 with
         |true=>
          go_wp2_with fail;go_ret;exact⟨largeT rfl,HF1.out.trans (HF3.out.trans HF5.out)⟩
         |false=>
          go_wp2_with fail;go_roundw
          case rel=>exact⟨k+1,by go_num,by omega,by omega,till_snoc HTL.out fun _=>by simpa using HB6.out,HF5.out⟩
          case measure=>simp[intOf];omega
        ·go_wp2_with fail
         go_meet
         exact⟨hfq,fun h=>all_till (k:=k) (by omega) HTL.out⟩
       ·go_wp2_with fail
        go_meet
        exact⟨hfq,fun h=>all_till (k:=k) (by omega) HTL.out⟩
     case rest=>
      obtain⟨hcut,hre⟩:=hcut;have HRE:=Zh hre;clear hre;have HF4:=Zh (HF3.out.trans hcut);have hb4:=Zb HBX3.out hcut (non _);have HO4:=Zh (HO3.out.fr hcut (fun k _=>non k) (fun k _=>non k));have HR1q:=Zh (HR1'.out.fr hcut (fun _ _=>non _) (fun _ h=>h));have x1:=(Zc hb4).1 1 _ rfl;have x4:=(Zc hb4).1 4 _ rfl;clear hcut hb4;obtain⟨wq,rfl⟩:∃wq:World,wq=wc:=⟨_,rfl⟩;go_upto_block 4 with fail
      go_cut [3,8] (fun v3 v8 wx=>wx=wq∧∃n:Int,v3= .int .i64 n)
      case first=>
       go_wp2_with fail
       go_loop [3,8] (fun t i=>∃(k:Nat) (n:Int),i= .int .i64 k∧t= .int .i64 n∧k≤f.params.length) (fun _ i=>f.params.length-(intOf i).toNat)
       case atStart=>exact⟨0,_,rfl,rfl,by omega⟩
       case round=>
        obtain⟨k,n2,rfl,rfl,hk⟩:=hrel;by_cases hk1:k<f.params.length
        ·by_cases hk2:k<40
         ·obtain⟨b5,o5,rfl,hb5,y0,y1,y2,y3⟩:=at_pa HR1q.out k hk1;go_wp2_with fail
          go_round
          case rel=>exact⟨k+1,_,by go_num,rfl,by omega⟩
          case measure=>simp[intOf];omega
         ·go_wp2_with fail
          go_meet
          exact⟨rfl,_,rfl⟩
        ·go_wp2_with fail
         go_meet
         exact⟨rfl,_,rfl⟩
      case rest=>
       obtain⟨rfl,n2,rfl⟩:=hcut;by_cases h9:R.length≤900
       ·go_wp2_with fail;all_goals first
         |(go_ret;exact⟨largeT rfl,HF1.out.trans HF4.out⟩)
         |(go_roundw;(case rel=>exact⟨j+1,_,by go_num,rfl,by omega,by omega,by rw[HRR.out];exact h9,by rw[HTS.out];exact rets_snoc HRT.out (HRE.out (by omega)),by rw[HRR.out];exact HO4.out,HF4.out⟩);(case measure=>simp[intOf];omega))
       ·go_wp2_with fail;all_goals
         go_ret;exact⟨largeT rfl,HF1.out.trans HF4.out⟩
    ·go_wp2_with fail
     go_meet
     exact⟨_,_,rfl,hl9,fun h=>by omega,how,hfr⟩
   ·go_wp2_with fail
    go_meet
    have hje:j=P.length:=by omega
    subst hje;have hrt:=HRT.out;rw[List.take_length] at hrt;exact⟨_,_,rfl,hl9,fun h=>⟨by rw[HTF.out,List.take_length],by rw[List.take_length],hrt⟩,how,hfr⟩
 case rest=>
  obtain⟨R0,n0,rfl,hR0,hsz0,how0,hf0⟩:=hcut;have HOW0:=Zh how0;clear how0;have HF0:=Zh hf0;clear hf0;have HSZ0:=Zh hsz0;clear hsz0;obtain⟨wz,rfl⟩:∃wz:World,wz=wc:=⟨_,rfl⟩;go_upto_block 6 with fail
  go_cut [3,4,9] (fun v3 v4 v9 wx=>∃n:Int,v3= .int .i64 n∧St.sizes R0≤900∧St.lights R0∧Fr Non W1 wx)
  case first=>
   go_wp2_with fail
   go_loopw [3,4,9] (fun t v i wr=>∃(R:List St) (j:Nat) (n:Int),i= .int .i64 j∧t= .int .i64 n∧j≤R.length∧R.length≤900∧R.length+inner (R.drop j)=St.sizes R0∧(St.lights (R.drop j)→St.lights R0)∧OwnX ok (w.heap.size+1) 42 9 wr v (St.ds R)∧Fr Non W1 wr) (fun _ _ i _=>901-(intOf i).toNat)
   case atStart=>exact⟨R0,0,_,rfl,rfl,by omega,hR0,by rw[List.drop_zero];exact inner_all R0,fun h=>by rw[List.drop_zero] at h;exact h,HOW0.out,HF0.out⟩
   case round=>
    obtain⟨R,j,n,rfl,rfl,hj,hR,hin,hli,how,hfr⟩:=hrel;have HLI:=Zh hli;clear hli;have hdR:(St.ds R).length=R.length:=by rw[St.ds_eq,List.length_map]
    obtain⟨A1,c1,hv,hc1⟩:=how.slice;rw[hdR] at hv hc1;subst hv;by_cases hlt:j<R.length
    ·obtain⟨g,us,rfl,hg,hrd,hce⟩:=how.at j (by rw[hdR];exact hlt);have hd:(St.ds R)[j]'(by rw[hdR];exact hlt)=R[j].d:=by simp[St.ds_eq]
     rw[hd] at hrd;have HWS:=Zh (work_step R j hlt);have HWL:=Zh (lights_step R j hlt);generalize R[j]=x at*;obtain⟨xk,xn,xf,xs,xm,xe,xa,xb,xl⟩:=x;obtain⟨_,_,rfl,rfl,_,_,rfl,rfl,_,_,rfl,rfl,_,_,rfl,rfl,_,_,rfl,rfl,_,_,rfl,⟨B1,d1,rfl,k1,l1,r1⟩,_,_,rfl,⟨B2,d2,rfl,k2,l2,r2⟩,_,_,rfl,⟨B3,d3,rfl,k3,l3,r3⟩,_,_,rfl,⟨B4,d4,rfl,k4,l4,r4⟩,rfl⟩:=hrd;have e0:=hce 0 _ rfl;have e1:=hce 1 _ rfl;have e2:=hce 2 _ rfl;have e3:=hce 3 _ rfl;have e4:=hce 4 _ rfl;have e5:=hce 5 _ rfl;have e6:=hce 6 _ rfl;have e7:=hce 7 _ rfl;have e8:=hce 8 _ rfl;clear hce;rw[Nat.add_zero] at e0;have hdb:(St.ds xb).length=xb.length:=by rw[St.ds_eq,List.length_map]
     have hdc:(St.ds xl).length=xl.length:=by rw[St.ds_eq,List.length_map]
     rw[Ex.ds_length] at e5 k1 l1;rw[List.length_map] at e6 k2 l2;rw[hdb] at e7 k3 l3;rw[hdc] at e8 k4 l4;have m1:xe.length≤140737488355328:=by unfold reach at l1;omega
     have m2:xa.length≤140737488355328:=by unfold reach at l2;omega
     have m3:xb.length≤140737488355328:=by unfold reach at l3;omega
     have m4:xl.length≤140737488355328:=by unfold reach at l4;omega
     go_upto_region 24 with fail;obtain⟨W2,HW2⟩:∃W2,W2=wr.alloc (.cells #[vu8 xk,.string xn,.string xf,.bool xs,.bool xm,.slice B1 xe.length d1,.slice B2 xa.length d2,.slice B3 xb.length d3,.slice B4 xl.length d4] 42):=⟨_,rfl⟩;rw[←HW2];have hf2:Fr Non wr W2:=by rw[HW2];exact(Zf wr).alloc _
     have hbx:W2.heap[wr.heap.size]? =some (.cells #[vu8 xk,.string xn,.string xf,.bool xs,.bool xm,.slice B1 xe.length d1,.slice B2 xa.length d2,.slice B3 xb.length d3,.slice B4 xl.length d4] 42 (0,0)):=by rw[HW2];exact blk_new _ _ _
     clear HW2 e0 e1 e2 e3 e4 e5 e6 e7 e8;have x1:=(Zc hbx).1 1 _ rfl;have x2:=(Zc hbx).1 2 _ rfl;have x5:=(Zc hbx).1 5 _ rfl;have x6:=(Zc hbx).1 6 _ rfl;have x7:=(Zc hbx).1 7 _ rfl;have x8:=(Zc hbx).1 8 _ rfl;have hzr:W1.heap.size≤wr.heap.size:=hfr.size;have hz2:=hf2.size;have HBX:=Zh hbx;clear hbx;have HR1:=Zh (r1.fr hf2 (fun _ _=>non _) (fun _ h=>h));clear r1;have HR2:=Zh (r2.fr hf2 (fun _ _=>non _) (fun _ h=>h));clear r2;have HR3:=Zh (r3.fr hf2 (fun _ _=>non _) (fun _ h=>h));clear r3;have HR4:=Zh (r4.fr hf2 (fun _ _=>non _) (fun _ h=>h));clear r4;have HOW:=Zh (how.fr hf2 (fun k _=>non k) (fun k _=>non k));have HLT:=Zh how.lt;clear how;have HF2:=Zh (hfr.trans hf2);clear hfr hf2;obtain⟨wp,rfl⟩:∃wp:World,wp=wr:=⟨_,rfl⟩;by_cases h9:R.length+xb.length+xl.length≤900
     ·go_upto_block 8 with fail;all_goals try (go_ret;exact⟨largeT rfl,HF1.out.trans HF2.out⟩)
      have HX:=Zh x1;clear x1 x2 x6;have X7:=Zh x7;clear x7 HX;have X8:=Zh x8;clear x8;go_wp2_with fail
      go_loopw [11] (fun i wq=>∃k:Nat,i= .int .i64 k∧k≤xe.length∧(∀i (hi:i<xe.length),i<k→xe[i].size≤2000)∧Fr Non W2 wq) (fun i _=>xe.length-(intOf i).toNat)
      case atStart=>exact⟨0,rfl,by omega,fun i _ h=>by omega,Zf _⟩
      case round=>
       obtain⟨k,rfl,hk,htl,hfq⟩:=hrel;have HTL:=Zh htl;clear htl;have hbq:=Zb HBX.out hfq (non _);have y5:=(Zc hbq).1 5 _ rfl;by_cases hk1:k<xe.length
       ·obtain⟨b5,o5,A5,c5,rfl,hb5,z0,z1,z2,z3,z4,z5,z6,z7⟩:=at_ex (HR1.out.fr hfq (fun _ _=>non _) (fun _ h=>h)) k hk1;have HFQ:=Zh hfq;clear hfq;have HLG:=Zh (large07_any xe[k] ok A5 c5 wr z7 z5 z6 (fun q hq=>by have:=HOK.out q hq;have:=HFQ.out.size;omega));clear z5 z6 z7 hbq;go_wp2_with fail;refine HLG.out.mono ?_;rintro e w5 ⟨⟨b6,rfl,hb6⟩,hf5⟩;have HB6:=Zh hb6;clear hb6;have HF5:=Zh (HFQ.out.trans hf5);clear hf5;cases b6 with
        |true=>
         go_wp2_with fail;go_ret;exact⟨largeT rfl,HF1.out.trans (HF2.out.trans HF5.out)⟩
        |false=>
         go_wp2_with fail;go_roundw
         case rel=>exact⟨k+1,by go_num,by omega,till_snoc HTL.out fun _=>by simpa using HB6.out,HF5.out⟩
         case measure=>simp[intOf];omega
       ·have HXE:=Zh (all_till (k:=k) (by omega) HTL.out);have y6:=(Zc hbq).1 6 _ rfl;have HFQ:=Zh hfq;obtain⟨wq,rfl⟩:∃wq:World,wq=wr:=⟨_,rfl⟩;have HA:=Zh (HR2.out.fr hfq (fun _ _=>non _) (fun _ h=>h));clear hfq;go_upto_block 10 with fail
        go_cut [3,12] (fun v3 v12 wx=>wx=wq∧∃n:Int,v3= .int .i64 n)
        case first=>
         go_wp2_with fail
         go_loop [3,12] (fun t i=>∃(k:Nat) (n:Int),i= .int .i64 k∧t= .int .i64 n∧k≤xa.length) (fun _ i=>xa.length-(intOf i).toNat)
         case atStart=>exact⟨0,_,rfl,rfl,by omega⟩
         case round=>
          obtain⟨k,n2,rfl,rfl,hk⟩:=hrel;by_cases hk1:k<xa.length
          ·obtain⟨b5,o5,rfl,hb5,z0⟩:=at_str HA.out k hk1;go_wp2_with fail
           go_round
           case rel=>exact⟨k+1,_,by go_num,rfl,by omega⟩
           case measure=>simp[intOf];omega
          ·go_wp2_with fail
           go_meet
           exact⟨rfl,_,rfl⟩
        case rest=>
         obtain⟨rfl,n2,rfl⟩:=hcut;have hbw:=Zb HBX.out HFQ.out (non _);have hfd:=HFQ.out.drew;obtain⟨wd,hwd⟩:∃wd,wd=wc.drew:=⟨_,rfl⟩;rw[←hwd] at hfd;have hbd:=Zb HBX.out hfd (non _);have hzd:W2.heap.size≤wd.heap.size:=hfd.size;obtain⟨A5,c5,w5,hr5,ho5,hf5⟩:=appR_st ok (w.heap.size+1) (.slice (some ⟨g,0,none⟩) R.length c1) wd R (HOW.out.fr hfd (fun k _=>non k) (fun k _=>non k)) (fun k hk=>by have:=HOK.out k hk;omega) B3 d3 xb (HR3.out.fr hfd (fun _ _=>non _) (fun _ h=>h)) hR l3 (by omega);have hgl:=HLT.out g rfl
         have hb5:=Zb hbd hf5 (by rintro⟨_,h2⟩;have h3:g=wp.heap.size:=by simpa[Value.ownBlock] using h2
                                  omega)
         have HFd:=Zh (HF2.out.trans hfd);have HR4d:=HR4.out.fr hfd (fun _ _=>non _) (fun _ h=>h);have HR45:=HR4d.fr hf5 (fun q hq h=>by have:=HOK.out q hq;have:=h.1;omega) (fun _ h=>h);have HF5:=Zh (HFd.out.then hf5 fun k hk h=>by have:=h.1;omega);have hz5:=hf5.size;obtain⟨R1,hR1⟩:∃R1,R1=R++xb:=⟨_,rfl⟩;rw[←hR1] at hr5 ho5;have hR1l:R1.length=R.length+xb.length:=by rw[hR1,List.length_append]
         obtain⟨A6,c6,w6,hr6,ho6,hf6⟩:=appR_st ok (w.heap.size+1) (.slice A5 R1.length c5) w5 R1 ho5 (fun k hk=>by have:=HOK.out k hk;omega) B4 d4 xl HR45 (by omega) l4 (by omega);obtain⟨R2,hR2⟩:∃R2,R2=R1++xl:=⟨_,rfl⟩;rw[←hR2] at hr6 ho6;have hR2l:R2.length=R.length+xb.length+xl.length:=by rw[hR2,List.length_append,hR1l]
         have HR2L:=Zh hR2l;clear hR2l hR1l;have HF6:=Zh (HF5.out.then hf6 fun k hk h=>by have:=h.1;omega);have HO6:=Zh ho6;clear ho6 ho5 hf6 hf5 HR45 HR4d;have HWS2:=Zh (show R2.length+inner (R2.drop (j+1))=R.length+inner (R.drop j) by rw[hR2,hR1];exact HWS.out);have HLI2:=Zh (show St.lights (R2.drop (j+1))→St.lights R0 from fun h=>HLI.out (HWL.out HXE.out (by rw[hR2,hR1] at h;exact h)));have a7:=(Zc hbw).1 7 _ rfl;have a8:=(Zc hbw).1 8 _ rfl;have b7:=(Zc hbd).1 7 _ rfl;have b8:=(Zc hbd).1 8 _ rfl;have e8:=(Zc hb5).1 8 _ rfl;clear hbw hbd hb5 hfd hR2 hR1 hgl;subst hwd;go_wp2_with fail;refine wp_region_any (by kernel_rfl) ?_
         change wpAny _ _ _ _ _ _ _ (World.drew _)
         refine wpAny_take (i:=0) (v:=?_) rfl (by kernel_rfl) (by kernel_rfl) (by kernel_rfl) (fun _ _ _ h=>h) (Or.inl ⟨by rfl,?hy0⟩) ?rst0
         case hy0=>intro w;go_simp;first|done|with_reducible rfl
         case rst0=>
         refine wpAny_take (i:=1) (v:=?_) rfl (by kernel_rfl) (by kernel_rfl) (by kernel_rfl) (fun _ _ _ h=>h) (Or.inl ⟨by rfl,?hy1⟩) ?rst1
         case hy1=>intro w;go_simp;first|done|with_reducible rfl
         case rst1=>
         refine wpAny_take (i:=4) (v:=?_) rfl (by kernel_rfl) (by kernel_rfl) (by kernel_rfl) (fun _ _ _ h=>h) (Or.inl ⟨by rfl,?hy4⟩) ?rst4
         case hy4=>intro w;go_simp;first|done|with_reducible rfl
         case rst4=>
         refine wpAny_ready (rs:=[2,5]) (by kernel_rfl) (by simp) (AllReady.cons rfl (fun K hK=>?br2) (AllReady.cons rfl (fun K hK=>?br5) AllReady.nil))
         case br2=>
          go_simp;refine hK _ _ ?_;clear hK K;refine wpAny_ready (rs:=[3,5]) (by kernel_rfl) (by simp) (AllReady.cons rfl (fun K hK=>?br3) (AllReady.cons rfl (fun K hK=>?brr5) AllReady.nil))
          case br3=>
           refine app_step rfl _ _ rfl rfl rfl hr5 ?_;refine hK _ _ ?_;clear hK K;refine wpAny_ready (rs:=[5]) (by kernel_rfl) (by simp) (AllReady.cons rfl (fun K hK=>?_) AllReady.nil);go_simp;refine hK _ _ ?_;clear hK K;refine wpAny_ready (rs:=[6]) (by kernel_rfl) (by simp) (AllReady.cons rfl (fun K hK=>?_) AllReady.nil);refine app_step rfl _ _ rfl rfl rfl hr6 ?_;refine hK _ _ ?_;clear hK K;refine wpAny_ready (rs:=[7]) (by kernel_rfl) (by simp) (AllReady.cons rfl (fun K hK=>?_) AllReady.nil);go_simp;refine hK _ _ ?_;clear hK K;refine wpAny_done (by kernel_rfl) ?_ _;go_wp2_with fail;go_roundw
           case rel=>exact⟨R2,j+1,_,by go_num,rfl,by have:=HR2L.out;omega,by have:=HR2L.out;omega,by rw[HWS2.out];exact hin,HLI2.out,HO6.out,HF6.out⟩
           case measure=>simp[intOf];omega
          case brr5=>
           go_simp;refine hK _ _ ?_;clear hK K;refine wpAny_ready (rs:=[3]) (by kernel_rfl) (by simp) (AllReady.cons rfl (fun K hK=>?_) AllReady.nil);refine app_step rfl _ _ rfl rfl rfl hr5 ?_;refine hK _ _ ?_;clear hK K;refine wpAny_ready (rs:=[6]) (by kernel_rfl) (by simp) (AllReady.cons rfl (fun K hK=>?_) AllReady.nil);refine app_step rfl _ _ rfl rfl rfl hr6 ?_;refine hK _ _ ?_;clear hK K;refine wpAny_ready (rs:=[7]) (by kernel_rfl) (by simp) (AllReady.cons rfl (fun K hK=>?_) AllReady.nil);go_simp;refine hK _ _ ?_;clear hK K;refine wpAny_done (by kernel_rfl) ?_ _;go_wp2_with fail;go_roundw
           case rel=>exact⟨R2,j+1,_,by go_num,rfl,by have:=HR2L.out;omega,by have:=HR2L.out;omega,by rw[HWS2.out];exact hin,HLI2.out,HO6.out,HF6.out⟩
           case measure=>simp[intOf];omega
         case br5=>
          go_simp;refine hK _ _ ?_;clear hK K;refine wpAny_ready (rs:=[2]) (by kernel_rfl) (by simp) (AllReady.cons rfl (fun K hK=>?_) AllReady.nil);go_simp;refine hK _ _ ?_;clear hK K;refine wpAny_ready (rs:=[3]) (by kernel_rfl) (by simp) (AllReady.cons rfl (fun K hK=>?_) AllReady.nil);refine app_step rfl _ _ rfl rfl rfl hr5 ?_;refine hK _ _ ?_;clear hK K;refine wpAny_ready (rs:=[6]) (by kernel_rfl) (by simp) (AllReady.cons rfl (fun K hK=>?_) AllReady.nil);refine app_step rfl _ _ rfl rfl rfl hr6 ?_;refine hK _ _ ?_;clear hK K;refine wpAny_ready (rs:=[7]) (by kernel_rfl) (by simp) (AllReady.cons rfl (fun K hK=>?_) AllReady.nil);go_simp;refine hK _ _ ?_;clear hK K;refine wpAny_done (by kernel_rfl) ?_ _;go_wp2_with fail;go_roundw
          case rel=>exact⟨R2,j+1,_,by go_num,rfl,by have:=HR2L.out;omega,by have:=HR2L.out;omega,by rw[HWS2.out];exact hin,HLI2.out,HO6.out,HF6.out⟩
          case measure=>simp[intOf];omega
     ·go_upto_block 8 with fail;all_goals try (go_ret;exact⟨largeT rfl,HF1.out.trans HF2.out⟩)
    ·go_wp2_with fail
     go_meet
     have hje:j=R.length:=by omega
     subst hje;rw[List.drop_length] at hin;have hl0:=HLI.out (by rw[List.drop_length];exact trivial);exact⟨_,rfl,by simp[inner] at hin;omega,hl0,hfr⟩
  case rest=>
   obtain⟨n,rfl,hsz,hlt0,hfx⟩:=hcut;have x0:=hfx.cell' ((Zc HB1.out).1 0 _ rfl) (non _);by_cases h30:P.length≤30
   ·go_wp2_with fail;go_ret;exact⟨largeB rfl fun _=>⟨h30,by rw[←(HSZ0.out h30).1];exact hsz,lights_flat P (by rw[←(HSZ0.out h30).2.1];exact hlt0) (HSZ0.out h30).2.2⟩,HF1.out.trans hfx⟩
   ·go_wp2_with fail;go_ret;exact⟨largeT rfl,HF1.out.trans hfx⟩
mutual
def Ex.same:Ex→Ex→Bool
 | .mk k n s o l,.mk k' n' s' o' l'=>k==k'&&n==n'&&sq s s'&&o==o'&&Ex.sames l l'
def Ex.sames:List Ex→List Ex→Bool
 |[],[]=>true
 |e::l,e'::l'=>Ex.same e e'&&Ex.sames l l'
 |_,_=>false
end
theorem sames_true:∀(l l':List Ex) (hl:l.length=l'.length),(∀j (h:j<l.length),Ex.same l[j] (l'[j]'(hl▸h))=true)→Ex.sames l l'=true
 |[],[],_,_=>rfl
 |e::l,e'::l',hl,h=>by
  simp only[Ex.sames,Bool.and_eq_true];exact⟨h 0 (by simp),sames_true l l' (by simpa using hl) fun j hj=>h (j+1) (by simpa using hj)⟩
theorem sames_false:∀(l l':List Ex) (j:Nat) (h:j<l.length) (h':j<l'.length),Ex.same l[j] l'[j]=false→Ex.sames l l'=false
 |e::l,e'::l',0,_,_,h=>by simp[Ex.sames,show Ex.same e e'=false from h]
 |e::l,e'::l',j+1,h1,h2,h=>by simp[Ex.sames,sames_false l l' j (by simpa using h1) (by simpa using h2) (by simpa using h)]
theorem sames_len:∀(l l':List Ex),l.length≠l'.length→Ex.sames l l'=false
 |[],[],h=>absurd rfl h
 |[],_::_,_=>rfl
 |_::_,[],_=>rfl
 |e::l,e'::l',h=>by simp[Ex.sames,sames_len l l' (by simpa using h)]
theorem len_of {a b:Nat} (h0:((a:Int)!=(b:Int))=false):a=b:=by
 have:¬((a:Int)≠b):=fun hn=>by rw[bne_iff_ne.2 hn] at h0;cases h0
 omega
theorem same_ne {k k':UInt8} {n n':UInt64} {s s':ByteArray} {o o':UInt8} {l l':List Ex} (h:¬(k=k'∧n=n'∧s=s'∧o=o'∧l.length=l'.length)):Ex.same (.mk k n s o l) (.mk k' n' s' o' l')=false:=by
 cases hx:Ex.same (.mk k n s o l) (.mk k' n' s' o' l') with
 |false=>rfl
 |true=>
  simp only[Ex.same,Bool.and_eq_true,beq_iff_eq,sq_iff] at hx;obtain⟨⟨⟨⟨h1,h2⟩,h3⟩,h4⟩,h5⟩:=hx;refine absurd ⟨h1,h2,h3,h4,?_⟩ h;rcases Nat.decEq l.length l'.length with hl|hl
  ·rw[sames_len _ _ hl] at h5;cases h5
  ·exact hl
theorem same_any (N:Nat):∀(k k':UInt8) (n n':UInt64) (s s':ByteArray) (o o':UInt8) (l l':List Ex) (ok:Nat→Prop) (A A':Option Addr) (c c':Nat) (w:World),Ex.size (.mk k n s o l)≤N→
   RdRows ok w 5 A 0 (Ex.ds l)→l.length≤c→l.length*64≤reach→RdRows ok w 5 A' 0 (Ex.ds l')→l'.length≤c'→l'.length*64≤reach→
  Calls Tryz.prog 69 #[exV k n s o A l.length c,exV k' n' s' o' A' l'.length c'] w fun e w'=>e= .returned (.bool (Ex.same (.mk k n s o l) (.mk k' n' s' o' l')))∧Fr Non w w':=by
 induction N with
 |zero=>intro k k' n n' s s' o o' l l' ok A A' c c' w h;simp[Ex.size] at h
 |succ N ih=>
  intro k k' n n' s s' o o' l l' ok A A' c c' w hN hr hlc hc hr' hlc' hc';have hlen:l.length≤140737488355328:=by unfold reach at hc;omega
  have hN':Ex.sizes l≤N:=by simp[Ex.size] at hN;omega
  clear hN;by_cases heq:k=k'∧n=n'∧s=s'∧o=o'∧l.length=l'.length
  ·obtain⟨rfl,rfl,rfl,rfl,hl⟩:=heq;have HF:=Zh (show Ex.same (.mk k n s o l) (.mk k n s o l')=Ex.sames l l' by simp[Ex.same,sq_refl]);have hne:((l.length:Int)!=(l'.length:Int))=false:=by simp[hl]
   have HL:=Zh hl;clear hl;have IH:=Zh ih;clear ih;have HR:=Zh hr;clear hr;have HR':=Zh hr';clear hr';go_enter Tryz.func69,Tryz.ntmps69;go_wp2_with fail
   go_loopw [5] (fun i wr=>∃j:Nat,i= .int .i64 j∧j≤l.length∧Fr Non ((w.alloc (.cells #[vu8 k,vu64 n,.string s,vu8 o,.slice A l.length c] 48)).alloc (.cells #[vu8 k,vu64 n,.string s,vu8 o,.slice A' l'.length c'] 48)) wr∧∀q,q<j→∀hq:q<l.length,Ex.same l[q] (l'[q]'(HL.out▸hq))=true) (fun i _=>l.length-(intOf i).toNat)
   case atStart=>exact⟨0,rfl,by omega,Zf _,fun j hj=>by omega⟩
   case round=>
    obtain⟨j,rfl,hj,hfr,hno⟩:=hrel;have HN:=Zh hno;clear hno;have g4:wr.cell? ⟨w.heap.size,4,none⟩=some (.slice A l.length c):=hfr.cell' (by simp) (non _);have g9:wr.cell? ⟨w.heap.size+1,4,none⟩=some (.slice A' l'.length c'):=hfr.cell' (by simp) (non _);by_cases hlt:j<l.length
    ·have hlt':j<l'.length:=by have:=HL.out;omega
     have hf0:Fr Non w wr:=(((Zf w).alloc _).alloc _).trans hfr;obtain⟨b,o1,A1,c1,rfl,hb,e0,e1,e2,e3,e4,p1,p2,p3⟩:=at_ex (HR.out.fr hf0 (fun _ _=>non _) (fun _ h=>h)) j hlt;obtain⟨b',o1',A1',c1',rfl,hb',e0',e1',e2',e3',e4',p1',p2',p3'⟩:=at_ex (HR'.out.fr hf0 (fun _ _=>non _) (fun _ h=>h)) j hlt';have x4:=ext_cell g4;have x9:=ext_cell g9;have x0:=ext_cell e0;have x1:=ext_cell e1;have x2:=ext_cell e2;have x3:=ext_cell e3;have x5:=ext_cell e4;have x0':=ext_cell e0';have x1':=ext_cell e1';have x2':=ext_cell e2';have x3':=ext_cell e3';have x5':=ext_cell e4';clear e0 e1 e2 e3 e4 e0' e1' e2' e3' e4';have P3:=Zh p3;clear p3;have P3':=Zh p3';clear p3';have HQ:=Zh (size_le l j hlt);go_wp2_with fail;refine wp_region_ext (by kernel_rfl) (by kernel_rfl) ?_
     repeat (go_big_quiet_step (fail))
     go_big_quiet_want;go_big_quiet_op;apply Exists.intro;refine⟨fun x=>?_,?_⟩
     ·refine calls_ext (v:=.bool (Ex.same l[j] l'[j])) ?_;refine(IH.out _ _ _ _ _ _ _ _ _ _ ok A1 A1' c1 c1' _ ?_ (P3.out.fr (ext_fr _ _) (fun _ _=>non _) (fun _ h=>h)) p1 p2 (P3'.out.fr (ext_fr _ _) (fun _ _=>non _) (fun _ h=>h)) p1' p2').mono ?_
      ·rw[ex_eta];have:=HQ.out;omega
      ·rw[ex_eta,ex_eta];exact fun _ _ h=>h
     go_big_quiet_on
     repeat (go_big_quiet_step (fail))
     refine wpQuiet_nil ?_;intro w2 hf2;generalize hm:Ex.same l[j] l'[j]=m;have HM:=Zh hm;clear hm;cases m with
     |true=>
      go_wp2_with fail;go_roundw
      case rel=>exact⟨j+1,by go_num,by omega,hfr.trans hf2,till HN.out fun _=>HM.out⟩
      case measure=>simp[intOf];omega
     |false=>
      go_wp2_with fail;go_ret;exact⟨ret_bool (by rw[HF.out];exact(sames_false _ _ j hlt hlt' HM.out).symm),hf0.trans hf2⟩
    ·go_wp2_with fail;go_ret;exact⟨ret_bool (by rw[HF.out];exact(sames_true _ _ HL.out fun q hq=>HN.out q (by omega) hq).symm),(((Zf w).alloc _).alloc _).trans hfr⟩
  ·go_enter Tryz.func69,Tryz.ntmps69;have HE:=Zh heq;clear heq;go_wp2_with fail;all_goals first
    |(go_ret;exact⟨ret_bool (same_ne HE.out).symm,((Zf w).alloc _).alloc _⟩)
    |(exfalso;exact HE.out ⟨UInt8.toNat_inj.1 (by omega),UInt64.toNat_inj.1 (by omega),sq_iff.1 (by rw[←tosq];simp[*]),UInt8.toNat_inj.1 (by omega),(len_of (by assumption))⟩)
def samesT:List ByteArray→List ByteArray→Bool
 |[],[]=>true
 |a::l,b::l'=>sq a b&&samesT l l'
 |_,_=>false
theorem samesT_true:∀(l l':List ByteArray) (hl:l.length=l'.length),(∀j (h:j<l.length),sq l[j] (l'[j]'(hl▸h))=true)→samesT l l'=true
 |[],[],_,_=>rfl
 |e::l,e'::l',hl,h=>by
  simp only[samesT,Bool.and_eq_true];exact⟨h 0 (by simp),samesT_true l l' (by simpa using hl) fun j hj=>h (j+1) (by simpa using hj)⟩
theorem samesT_false:∀(l l':List ByteArray) (j:Nat) (h:j<l.length) (h':j<l'.length),sq l[j] l'[j]=false→samesT l l'=false
 |e::l,e'::l',0,_,_,h=>by simp[samesT,show sq e e'=false from h]
 |e::l,e'::l',j+1,h1,h2,h=>by simp[samesT,samesT_false l l' j (by simpa using h1) (by simpa using h2) (by simpa using h)]
theorem samesT_len:∀(l l':List ByteArray),l.length≠l'.length→samesT l l'=false
 |[],[],h=>absurd rfl h
 |[],_::_,_=>rfl
 |_::_,[],_=>rfl
 |e::l,e'::l',h=>by simp[samesT,samesT_len l l' (by simpa using h)]
theorem sameTexts_any (l l':List ByteArray) (ok:Nat→Prop) (A A':Option Addr) (c c':Nat) (w:World) (hr:RdRows ok w 1 A 0 (l.map strD)) (hc:l.length*16≤reach) (hr':RdRows ok w 1 A' 0 (l'.map strD)):
  Calls Tryz.prog 70 #[.slice A l.length c,.slice A' l'.length c'] w fun e w'=>e= .returned (.bool (samesT l l'))∧Fr Non w w':=by
 have hlen:l.length≤140737488355328:=by unfold reach at hc;omega
 by_cases hl:l.length=l'.length
 ·have hne:((l.length:Int)!=(l'.length:Int))=false:=by simp[hl]
  have HL:=Zh hl;clear hl;have HR:=Zh hr;clear hr;have HR':=Zh hr';clear hr';go_enter Tryz.func70,Tryz.ntmps70;go_wp2_with fail
  go_loopw [5] (fun i wr=>∃j:Nat,i= .int .i64 j∧j≤l.length∧Fr Non w wr∧∀q,q<j→∀hq:q<l.length,sq l[q] (l'[q]'(HL.out▸hq))=true) (fun i _=>l.length-(intOf i).toNat)
  case atStart=>exact⟨0,rfl,by omega,Zf _,fun j hj=>by omega⟩
  case round=>
   obtain⟨j,rfl,hj,hfr,hno⟩:=hrel;have HN:=Zh hno;clear hno;by_cases hlt:j<l.length
   ·have hlt':j<l'.length:=by have:=HL.out;omega
    obtain⟨b,o1,rfl,hb,e0⟩:=at_str (HR.out.fr hfr (fun _ _=>non _) (fun _ h=>h)) j hlt;obtain⟨b',o1',rfl,hb',e0'⟩:=at_str (HR'.out.fr hfr (fun _ _=>non _) (fun _ h=>h)) j hlt';have x0:=ext_cell e0;have x0':=ext_cell e0';clear e0 e0';have ji:(j:Int)<l'.length:=by omega
    go_wp2_with fail;refine wp_region_ext (by kernel_rfl) (by kernel_rfl) ?_
    repeat (go_big_quiet_step (fail))
    refine wpQuiet_nil ?_;intro w2 hf2;rw[tosq];generalize hm:sq l[j] l'[j]=m;have HM:=Zh hm;clear hm;cases m with
    |true=>
     go_wp2_with fail;go_roundw
     case rel=>exact⟨j+1,by go_num,by omega,hfr.trans hf2,till HN.out fun _=>HM.out⟩
     case measure=>simp[intOf];omega
    |false=>
     go_wp2_with fail;go_ret;exact⟨ret_bool (samesT_false _ _ j hlt hlt' HM.out).symm,hfr.trans hf2⟩
   ·go_wp2_with fail;go_ret;exact⟨ret_bool (samesT_true _ _ HL.out fun q hq=>HN.out q (by omega) hq).symm,hfr⟩
 ·have hne:((l.length:Int)!=(l'.length:Int))=true:=by rw[bne_iff_ne];omega
  have HL:=Zh hl;clear hl;go_enter Tryz.func70,Tryz.ntmps70;go_wp2_with fail;go_ret;exact⟨ret_bool (samesT_len _ _ HL.out).symm,Zf _⟩
theorem sameX_any (e e':Ex) (ok:Nat→Prop) (A A':Option Addr) (c c':Nat) (w:World) (hr:RdRows ok w 5 A 0 (Ex.ds e.kids)) (h1:e.kids.length≤c) (h2:e.kids.length*64≤reach) (hr':RdRows ok w 5 A' 0 (Ex.ds e'.kids)) (h1':e'.kids.length≤c') (h2':e'.kids.length*64≤reach):
  Calls Tryz.prog 69 #[exV e.kind e.num e.name e.op A e.kids.length c,exV e'.kind e'.num e'.name e'.op A' e'.kids.length c'] w fun r w'=>r= .returned (.bool (Ex.same e e'))∧Fr Non w w':=by
 have:=same_any e.size e.kind e'.kind e.num e'.num e.name e'.name e.op e'.op e.kids e'.kids ok A A' c c' w (by rw[ex_eta];exact Nat.le_refl _) hr h1 h2 hr' h1' h2';rw[ex_eta,ex_eta] at this;exact this
theorem sameExprs_any (l l':List Ex) (ok:Nat→Prop) (A A':Option Addr) (c c':Nat) (w:World) (hr:RdRows ok w 5 A 0 (Ex.ds l)) (hc:l.length*64≤reach) (hr':RdRows ok w 5 A' 0 (Ex.ds l')):
  Calls Tryz.prog 43 #[.slice A l.length c,.slice A' l'.length c'] w fun e w'=>e= .returned (.bool (Ex.sames l l'))∧Fr Non w w':=by
 have hlen:l.length≤140737488355328:=by unfold reach at hc;omega
 by_cases hl:l.length=l'.length
 ·have hne:((l.length:Int)!=(l'.length:Int))=false:=by simp[hl]
  have HL:=Zh hl;clear hl;have HR:=Zh hr;clear hr;have HR':=Zh hr';clear hr';go_enter Tryz.func43,Tryz.ntmps43;go_wp2_with fail
  go_loopw [5] (fun i wr=>∃j:Nat,i= .int .i64 j∧j≤l.length∧Fr Non w wr∧∀q,q<j→∀hq:q<l.length,Ex.same l[q] (l'[q]'(HL.out▸hq))=true) (fun i _=>l.length-(intOf i).toNat)
  case atStart=>exact⟨0,rfl,by omega,Zf _,fun j hj=>by omega⟩
  case round=>
   obtain⟨j,rfl,hj,hfr,hno⟩:=hrel;have HN:=Zh hno;clear hno;by_cases hlt:j<l.length
   ·have hlt':j<l'.length:=by have:=HL.out;omega
    obtain⟨b,o1,A1,c1,rfl,hb,e0,e1,e2,e3,e4,p1,p2,p3⟩:=at_ex (HR.out.fr hfr (fun _ _=>non _) (fun _ h=>h)) j hlt;obtain⟨b',o1',A1',c1',rfl,hb',e0',e1',e2',e3',e4',p1',p2',p3'⟩:=at_ex (HR'.out.fr hfr (fun _ _=>non _) (fun _ h=>h)) j hlt';have x0:=ext_cell e0;have x1:=ext_cell e1;have x2:=ext_cell e2;have x3:=ext_cell e3;have x5:=ext_cell e4;have x0':=ext_cell e0';have x1':=ext_cell e1';have x2':=ext_cell e2';have x3':=ext_cell e3';have x5':=ext_cell e4';clear e0 e1 e2 e3 e4 e0' e1' e2' e3' e4';have P3:=Zh p3;clear p3;have P3':=Zh p3';clear p3';have ji:(j:Int)<l'.length:=by omega
    go_wp2_with fail;refine wp_region_ext (by kernel_rfl) (by kernel_rfl) ?_
    repeat (go_big_quiet_step (fail))
    go_big_quiet_want;go_big_quiet_op;apply Exists.intro;refine⟨fun x=>?_,?_⟩
    ·exact calls_ext (v:=.bool (Ex.same l[j] l'[j])) (sameX_any l[j] l'[j] ok A1 A1' c1 c1' _ (P3.out.fr (ext_fr _ _) (fun _ _=>non _) (fun _ h=>h)) p1 p2 (P3'.out.fr (ext_fr _ _) (fun _ _=>non _) (fun _ h=>h)) p1' p2')
    go_big_quiet_on
    repeat (go_big_quiet_step (fail))
    refine wpQuiet_nil ?_;intro w2 hf2;generalize hm:Ex.same l[j] l'[j]=m;have HM:=Zh hm;clear hm;cases m with
    |true=>
     go_wp2_with fail;go_roundw
     case rel=>exact⟨j+1,by go_num,by omega,hfr.trans hf2,till HN.out fun _=>HM.out⟩
     case measure=>simp[intOf];omega
    |false=>
     go_wp2_with fail;go_ret;exact⟨ret_bool (sames_false _ _ j hlt hlt' HM.out).symm,hfr.trans hf2⟩
   ·go_wp2_with fail;go_ret;exact⟨ret_bool (sames_true _ _ HL.out fun q hq=>HN.out q (by omega) hq).symm,hfr⟩
 ·have hne:((l.length:Int)!=(l'.length:Int))=true:=by rw[bne_iff_ne];omega
  have HL:=Zh hl;clear hl;go_enter Tryz.func43,Tryz.ntmps43;go_wp2_with fail;go_ret;exact⟨ret_bool (sames_len _ _ HL.out).symm,Zf _⟩
mutual
def St.same:St→St→Bool
 | .mk k n f s m ex args body els,.mk k' n' f' s' m' ex' args' body' els'=>k==k'&&sq n n'&&sq f f'&&s==s'&&m==m'&&Ex.sames ex ex'&&samesT args args'&&St.sames body body'&&St.sames els els'
def St.sames:List St→List St→Bool
 |[],[]=>true
 |e::l,e'::l'=>St.same e e'&&St.sames l l'
 |_,_=>false
end
theorem ssames_true:∀(l l':List St) (hl:l.length=l'.length),(∀j (h:j<l.length),St.same l[j] (l'[j]'(hl▸h))=true)→St.sames l l'=true
 |[],[],_,_=>rfl
 |e::l,e'::l',hl,h=>by
  simp only[St.sames,Bool.and_eq_true];exact⟨h 0 (by simp),ssames_true l l' (by simpa using hl) fun j hj=>h (j+1) (by simpa using hj)⟩
theorem ssames_false:∀(l l':List St) (j:Nat) (h:j<l.length) (h':j<l'.length),St.same l[j] l'[j]=false→St.sames l l'=false
 |e::l,e'::l',0,_,_,h=>by simp[St.sames,show St.same e e'=false from h]
 |e::l,e'::l',j+1,h1,h2,h=>by simp[St.sames,ssames_false l l' j (by simpa using h1) (by simpa using h2) (by simpa using h)]
theorem ssames_len:∀(l l':List St),l.length≠l'.length→St.sames l l'=false
 |[],[],h=>absurd rfl h
 |[],_::_,_=>rfl
 |_::_,[],_=>rfl
 |e::l,e'::l',h=>by simp[St.sames,ssames_len l l' (by simpa using h)]
theorem two_cells {w w1:World} {cs1 cs2:Array Value} {T1 T2:TypeId} {S:Nat→Prop} (hf:Fr S ((w.alloc (.cells cs1 T1)).alloc (.cells cs2 T2)).drew w1) (h1:¬S w.heap.size) (h2:¬S (w.heap.size+1)):
  (∀i v,cs1[i]? =some v→w1.cell? ⟨w.heap.size,i,none⟩=some v)∧(∀i v,cs2[i]? =some v→w1.cell? ⟨w.heap.size+1,i,none⟩=some v):=by
 constructor
 ·intro i v hv;refine hf.cell' ?_ h1;rw[World.cell?_drew,World.cell?_alloc_past _ _ _ (by simp),World.cell?_alloc_at _ _ _ _ rfl];exact hv
 ·intro i v hv;refine hf.cell' ?_ h2;rw[World.cell?_drew,World.cell?_alloc_at _ _ _ _ (by simp)];exact hv
theorem two_fr {S:Nat→Prop} {w w1:World} {o1 o2:Obj} (hf:Fr S ((w.alloc o1).alloc o2).drew w1):Fr S w w1:=(((Fr.refl _ _).alloc o1).alloc o2).drew.trans hf
theorem fr_eq {w w':World} (h:w=w'):Fr Non w w':=h▸Zf _
theorem stsame_iff {x y:St} (h:x.kind=y.kind∧x.name=y.name∧x.frm=y.frm∧x.sec=y.sec∧x.mt=y.mt):St.same x y=(Ex.sames x.ex y.ex&&samesT x.args y.args&&St.sames x.body y.body&&St.sames x.els y.els):=by
 cases x;cases y;obtain⟨h1,h2,h3,h4,h5⟩:=h;simp only[St.kind,St.name,St.frm,St.sec,St.mt] at h1 h2 h3 h4 h5;subst h1 h2 h3 h4 h5;simp[St.same,St.ex,St.args,St.body,St.els,sq_refl]
theorem stsame_ne {x y:St} (h:¬(x.kind=y.kind∧x.name=y.name∧x.frm=y.frm∧x.sec=y.sec∧x.mt=y.mt)):St.same x y=false:=by
 cases hx:St.same x y with
 |false=>rfl
 |true=>
  cases x;cases y;simp only[St.same,Bool.and_eq_true,beq_iff_eq,sq_iff] at hx;exact absurd ⟨hx.1.1.1.1.1.1.1.1,hx.1.1.1.1.1.1.1.2,hx.1.1.1.1.1.1.2,hx.1.1.1.1.1.2,hx.1.1.1.1.2⟩ h
theorem sameSts_any (N:Nat):∀(l l':List St) (ok:Nat→Prop) (A A':Option Addr) (c c':Nat) (w:World),St.sizes l≤N→RdRows ok w 9 A 0 (St.ds l)→l.length*144≤reach→RdRows ok w 9 A' 0 (St.ds l')→
  Calls Tryz.prog 44 #[.slice A l.length c,.slice A' l'.length c'] w fun e w'=>e= .returned (.bool (St.sames l l'))∧Fr Non w w':=by
 induction N with
 |zero=>
  intro l l' ok A A' c c' w hN hr hc hr';obtain rfl:l=[]:=by cases l with|nil=>rfl|cons s l=>cases s;simp[St.sizes,St.size] at hN
  by_cases hl:l'.length=0
  ·obtain rfl:l'=[]:=List.length_eq_zero_iff.1 hl;go_enter Tryz.func44,Tryz.ntmps44;go_wp2_with fail;refine wp_loop_rounds 1 ?_;rw[rounds_succ];go_wp2_with fail;go_ret;exact⟨rfl,Zf _⟩
  ·have hne:((0:Int)!=(l'.length:Int))=true:=by rw[bne_iff_ne];omega
   have HL:=Zh hl;clear hl;go_enter Tryz.func44,Tryz.ntmps44;go_wp2_with fail;go_ret;exact⟨ret_bool (ssames_len [] l' (by have:=HL.out;simp;omega)).symm,Zf _⟩
 |succ N ih=>
 intro l l' ok A A' c c' w hN hr hc hr';have hlen:l.length≤140737488355328:=by unfold reach at hc;omega
 have IH:=Zh ih;clear ih;by_cases hl:l.length=l'.length
 ·have hne:((l.length:Int)!=(l'.length:Int))=false:=by simp[hl]
  have HL:=Zh hl;clear hl;have HR:=Zh hr;clear hr;have HR':=Zh hr';clear hr';go_enter Tryz.func44,Tryz.ntmps44;go_wp2_with fail
  go_loopw [5] (fun i wr=>∃j:Nat,i= .int .i64 j∧j≤l.length∧Fr Non w wr∧∀q,q<j→∀hq:q<l.length,St.same l[q] (l'[q]'(HL.out▸hq))=true) (fun i _=>l.length-(intOf i).toNat)
  case atStart=>exact⟨0,rfl,by omega,Zf _,fun j hj=>by omega⟩
  case round=>
   obtain⟨j,rfl,hj,hfr,hno⟩:=hrel;have HN:=Zh hno;clear hno;by_cases hlt:j<l.length
   ·have hlt':j<l'.length:=by have:=HL.out;omega
    obtain⟨b,o1,A1,c1,A2,c2,A3,c3,A4,c4,rfl,hb,e0,e1,e2,e3,e4,e5,e6,e7,e8,⟨p1,q1,r1⟩,⟨p2,q2,r2⟩,⟨p3,q3,r3⟩,⟨p4,q4,r4⟩⟩:=at_st (HR.out.fr hfr (fun _ _=>non _) (fun _ h=>h)) j hlt;obtain⟨b',o1',A1',c1',A2',c2',A3',c3',A4',c4',rfl,hb',e0',e1',e2',e3',e4',e5',e6',e7',e8',⟨p1',q1',r1'⟩,⟨p2',q2',r2'⟩,⟨p3',q3',r3'⟩,⟨p4',q4',r4'⟩⟩:=at_st (HR'.out.fr hfr (fun _ _=>non _) (fun _ h=>h)) j hlt';have ji:(j:Int)<l'.length:=by omega
    have R1:=Zh r1;clear r1;have R2:=Zh r2;clear r2;have R3:=Zh r3;clear r3;have R4:=Zh r4;clear r4;have R1':=Zh r1';clear r1';have R2':=Zh r2';clear r2';have R3':=Zh r3';clear r3';have R4':=Zh r4';clear r4';have hbl:b<wr.heap.size:=World.block_lt_of_cell? _ _ e0;have hbl':b'<wr.heap.size:=World.block_lt_of_cell? _ _ e0';go_wp2_with fail;refine(fun(key: ?K)=>?main) ?kp
    case main=>
     go_region
     ·generalize hwd:World.drew _=wd;have hfd:=fr_eq hwd;obtain⟨z,z'⟩:=two_cells hfd (non _) (non _);have hfr2:=two_fr hfd;have hfr3:=hfr.trans hfr2;clear hfd hwd;revert z z';generalize wr.heap.size+1=n2;generalize wr.heap.size=n1;revert hfr2 hfr3;revert n1 n2 wd;exact key
     ·generalize hwd:World.drew _=wd;have hfd:=fr_eq hwd;obtain⟨z',z⟩:=two_cells hfd (non _) (non _);have hfr2:=two_fr hfd;have hfr3:=hfr.trans hfr2;clear hfd hwd;revert z z';generalize wr.heap.size+1=n1;generalize wr.heap.size=n2;revert hfr2 hfr3;revert n1 n2 wd;exact fun wd a b f2 f3 z' z=>key wd b a f2 f3 z z'
    case kp=>
     clear hb hb' hj p1 p1' p2 p2' p3 p3' p4 p4';intro wd n2 n1 hfr2 hfr3 z z';clear e0 e1 e2 e3 e4 e5 e6 e7 e8 e0' e1' e2' e3' e4' e5' e6' e7' e8';have HNN:=Zh hN;clear hN;have HCC:=Zh hc;clear hc;have q1h:=Zh q1;clear q1;have q2h:=Zh q2;clear q2;have q3h:=Zh q3;clear q3;have q4h:=Zh q4;clear q4;clear q1' q2' q3' q4';have z0:=z 0 _ rfl;have z1:=z 1 _ rfl;have z2:=z 2 _ rfl;have z3:=z 3 _ rfl;have z4:=z 4 _ rfl;have z5:=z 5 _ rfl;have z0':=z' 0 _ rfl;have z1':=z' 1 _ rfl;have z2':=z' 2 _ rfl;have z3':=z' 3 _ rfl;have z4':=z' 4 _ rfl;have z5':=z' 5 _ rfl;have Z:=Zh z;clear z;have Z':=Zh z';clear z';have FR2:=Zh hfr2;clear hfr2;have FR3:=Zh hfr3;clear hfr3;go_wp2_with fail;all_goals try
      go_ret;refine⟨ret_bool (ssames_false _ _ j hlt hlt' (stsame_ne ?_)).symm,FR3.out⟩;rintro⟨k1,k2,k3,k4,k5⟩
      first
       |exact(‹¬((l[j].kind.toNat:Int)=(l'[j].kind.toNat:Int))›) (by rw[k1])
       |exact(‹¬(l[j].name.toList=l'[j].name.toList)›) (by rw[k2])
       |exact(‹¬(l[j].frm.toList=l'[j].frm.toList)›) (by rw[k3])
       |exact(‹¬(l[j].sec=l'[j].sec)›) k4
       |exact(‹¬(l[j].mt=l'[j].mt)›) k5
     have hk1:l[j].kind=l'[j].kind:=UInt8.toNat.inj (by have:= ‹(l[j].kind.toNat:Int)=(l'[j].kind.toNat:Int)›;omega);have hk2:l[j].name=l'[j].name:=sq_iff.1 (by rw[←tosq,beq_iff_eq];assumption);have hk3:l[j].frm=l'[j].frm:=sq_iff.1 (by rw[←tosq,beq_iff_eq];assumption);have HE:=Zh (stsame_iff ⟨hk1,hk2,hk3,‹l[j].sec=l'[j].sec›,‹l[j].mt=l'[j].mt›⟩);clear hk1 hk2 hk3 z0 z1 z2 z3 z4 z5 z0' z1' z2' z3' z4' z5';refine(sameExprs_any l[j].ex l'[j].ex ok A1 A1' c1 c1' wd (R1.out.fr FR2.out (fun _ _=>non _) (fun _ h=>h)) q1h.out (R1'.out.fr FR2.out (fun _ _=>non _) (fun _ h=>h))).mono ?_;rintro e w2 ⟨rfl,hf2⟩;generalize hm1:Ex.sames l[j].ex l'[j].ex=m1;have z6:=hf2.cell' (Z.out 6 _ rfl) (non _);have z6':=hf2.cell' (Z'.out 6 _ rfl) (non _);have HM1:=Zh hm1;clear hm1;have HF2:=Zh hf2;clear hf2;cases m1 with
     |false=>
      go_wp2_with fail;go_ret;exact⟨ret_bool (ssames_false _ _ j hlt hlt' (by rw[HE.out,HM1.out];rfl)).symm,FR3.out.trans HF2.out⟩
     |true=>
     go_wp2_with fail;refine(sameTexts_any l[j].args l'[j].args ok A2 A2' c2 c2' _ (R2.out.fr (FR2.out.trans HF2.out) (fun _ _=>non _) (fun _ h=>h)) q2h.out (R2'.out.fr (FR2.out.trans HF2.out) (fun _ _=>non _) (fun _ h=>h))).mono ?_;rintro e w3 ⟨rfl,hf3⟩;generalize hm2:samesT l[j].args l'[j].args=m2;clear z6 z6';have z7:=hf3.cell' (HF2.out.cell' (Z.out 7 _ rfl) (non _)) (non _);have z7':=hf3.cell' (HF2.out.cell' (Z'.out 7 _ rfl) (non _)) (non _);have HM2:=Zh hm2;clear hm2;have HF3:=Zh (HF2.out.trans hf3);clear hf3;cases m2 with
     |false=>
      go_wp2_with fail;go_ret;exact⟨ret_bool (ssames_false _ _ j hlt hlt' (by rw[HE.out,HM1.out,HM2.out];rfl)).symm,FR3.out.trans HF3.out⟩
     |true=>
     go_wp2_with fail;refine(IH.out l[j].body l'[j].body ok A3 A3' c3 c3' _ (by have:=HNN.out;have h2:=ssize_le l j hlt;rw[St.size_eq] at h2;omega) (R3.out.fr (FR2.out.trans HF3.out) (fun _ _=>non _) (fun _ h=>h)) q3h.out (R3'.out.fr (FR2.out.trans HF3.out) (fun _ _=>non _) (fun _ h=>h))).mono ?_;rintro e w4 ⟨rfl,hf4⟩;generalize hm3:St.sames l[j].body l'[j].body=m3;clear z7 z7';have z8:=hf4.cell' (HF3.out.cell' (Z.out 8 _ rfl) (non _)) (non _);have z8':=hf4.cell' (HF3.out.cell' (Z'.out 8 _ rfl) (non _)) (non _);have HM3:=Zh hm3;clear hm3;have HF4:=Zh (HF3.out.trans hf4);clear hf4;cases m3 with
     |false=>
      go_wp2_with fail;go_ret;exact⟨ret_bool (ssames_false _ _ j hlt hlt' (by rw[HE.out,HM1.out,HM2.out,HM3.out];rfl)).symm,FR3.out.trans HF4.out⟩
     |true=>
     go_wp2_with fail;refine(IH.out l[j].els l'[j].els ok A4 A4' c4 c4' _ (by have:=HNN.out;have h2:=ssize_le l j hlt;rw[St.size_eq] at h2;omega) (R4.out.fr (FR2.out.trans HF4.out) (fun _ _=>non _) (fun _ h=>h)) q4h.out (R4'.out.fr (FR2.out.trans HF4.out) (fun _ _=>non _) (fun _ h=>h))).mono ?_;rintro e w5 ⟨rfl,hf5⟩;generalize hm4:St.sames l[j].els l'[j].els=m4;clear z8 z8';have HM4:=Zh hm4;clear hm4;have HF5:=Zh (HF4.out.trans hf5);clear hf5;cases m4 with
     |false=>
      go_wp2_with fail;go_ret;exact⟨ret_bool (ssames_false _ _ j hlt hlt' (by rw[HE.out,HM1.out,HM2.out,HM3.out,HM4.out];rfl)).symm,FR3.out.trans HF5.out⟩
     |true=>
     go_wp2_with fail;go_roundw
     case rel=>exact⟨j+1,by go_num,by omega,FR3.out.trans HF5.out,till HN.out fun _=>by rw[HE.out,HM1.out,HM2.out,HM3.out,HM4.out];rfl⟩
     case measure=>simp[intOf];omega
   ·go_wp2_with fail;go_ret;exact⟨ret_bool (ssames_true _ _ HL.out fun q hq=>HN.out q (by omega) hq).symm,hfr⟩
 ·have hne:((l.length:Int)!=(l'.length:Int))=true:=by rw[bne_iff_ne];omega
  have HL:=Zh hl;clear hl;go_enter Tryz.func44,Tryz.ntmps44;go_wp2_with fail;go_ret;exact⟨ret_bool (ssames_len _ _ HL.out).symm,Zf _⟩
mutual
theorem ex_same_self:∀e:Ex,Ex.same e e=true
 | .mk k n s o l=>by simp[Ex.same,sq_refl,exs_same_self l]
theorem exs_same_self:∀l:List Ex,Ex.sames l l=true
 |[]=>rfl
 |e::l=>by simp[Ex.sames,ex_same_self e,exs_same_self l]
end
theorem texts_self:∀l:List ByteArray,samesT l l=true
 |[]=>rfl
 |e::l=>by simp[samesT,sq_refl,texts_self l]
mutual
theorem st_same_self:∀e:St,St.same e e=true
 | .mk k n f s m ex args body els=>by simp[St.same,sq_refl,exs_same_self,texts_self,sts_same_self body,sts_same_self els]
theorem sts_same_self:∀l:List St,St.sames l l=true
 |[]=>rfl
 |e::l=>by simp[St.sames,st_same_self e,sts_same_self l]
end
theorem sameP_self (l:List Fu) (ok:Nat→Prop) (A A':Option Addr) (c c':Nat) (w:World) (hr:RdRows ok w 5 A 0 (l.map Fu.d)) (hc:l.length*96≤reach) (hr':RdRows ok w 5 A' 0 (l.map Fu.d)):
  Calls Tryz.prog 18 #[.agg #[.slice A l.length c],.agg #[.slice A' l.length c']] w fun e w'=>e= .returned (.bool true)∧Fr Non w w':=by
 have hlen:l.length≤140737488355328:=by unfold reach at hc;omega
 have HR:=Zh hr;clear hr;have HR':=Zh hr';clear hr';go_enter Tryz.func18,Tryz.ntmps18;go_wp2_with fail;obtain⟨W1,HW1⟩:∃W1,W1=(w.alloc (.cells #[.slice A l.length c] 24)).alloc (.cells #[.slice A' l.length c'] 24):=⟨_,rfl⟩;rw[←HW1];have hb1:W1.heap[w.heap.size]? =some (.cells #[.slice A l.length c] 24 (0,0)):=by rw[HW1];exact blk_old (blk_new _ _ _)
 have hb2:W1.heap[w.heap.size+1]? =some (.cells #[.slice A' l.length c'] 24 (0,0)):=by rw[HW1];exact blk_new' (by simp) _ _
 have hfw:Fr Non w W1:=by rw[HW1];exact((Zf w).alloc _).alloc _
 clear HW1;have HB1:=Zh hb1;clear hb1;have HB2:=Zh hb2;clear hb2;have HFW:=Zh hfw;clear hfw
 go_loopw [5] (fun i wr=>∃j:Nat,i= .int .i64 j∧j≤l.length∧Fr Non W1 wr) (fun i _=>l.length-(intOf i).toNat)
 case atStart=>exact⟨0,rfl,by omega,Zf _⟩
 case round=>
  obtain⟨j,rfl,hj,hfr⟩:=hrel;have hbr1:=Zb HB1.out hfr (non _);have hbr2:=Zb HB2.out hfr (non _);have s0:=(Zc hbr1).1 0 _ rfl;have s0':=(Zc hbr2).1 0 _ rfl;have hbl1:=blk_lt hbr1;have hbl2:=blk_lt hbr2;clear hbr1 hbr2;by_cases hlt:j<l.length
  ·obtain⟨b,o1,A1,c1,A2,c2,A3,c3,rfl,hb,e0,e1,e2,e3,e4,⟨p1,q1,r1⟩,⟨p2,q2,r2⟩,⟨p3,q3,r3⟩⟩:=at_fu (HR.out.fr (HFW.out.trans hfr) (fun _ _=>non _) (fun _ h=>h)) j hlt;obtain⟨b',o1',A1',c1',A2',c2',A3',c3',rfl,hb',e0',e1',e2',e3',e4',⟨p1',q1',r1'⟩,⟨p2',q2',r2'⟩,⟨p3',q3',r3'⟩⟩:=at_fu (HR'.out.fr (HFW.out.trans hfr) (fun _ _=>non _) (fun _ h=>h)) j hlt;have R1:=Zh r1;clear r1;have R2:=Zh r2;clear r2;have R3:=Zh r3;clear r3;have R1':=Zh r1';clear r1';have R2':=Zh r2';clear r2';have R3':=Zh r3';clear r3';have hbl:b<wr.heap.size:=World.block_lt_of_cell? _ _ e0;have hbl':b'<wr.heap.size:=World.block_lt_of_cell? _ _ e0';go_wp2_with fail;refine(fun(key: ?K)=>?main) ?kp
   case main=>
    go_region
    ·generalize hwd:World.drew _=wd;have hfd:=fr_eq hwd;obtain⟨z,z'⟩:=two_cells hfd (non _) (non _);have hfr2:=two_fr hfd;have hfr3:=hfr.trans hfr2;clear hfd hwd;revert z z';generalize wr.heap.size+1=n2;generalize wr.heap.size=n1;revert hfr2 hfr3;revert n1 n2 wd;exact key
    ·generalize hwd:World.drew _=wd;have hfd:=fr_eq hwd;obtain⟨z',z⟩:=two_cells hfd (non _) (non _);have hfr2:=two_fr hfd;have hfr3:=hfr.trans hfr2;clear hfd hwd;revert z z';generalize wr.heap.size+1=n1;generalize wr.heap.size=n2;revert hfr2 hfr3;revert n1 n2 wd;exact fun wd a b f2 f3 z' z=>key wd b a f2 f3 z z'
   case kp=>
    intro wd n2 n1 hfr2 hfr3 z z';clear e0 e1 e2 e3 e4 e0' e1' e2' e3' e4' s0 s0' hbl hbl' hbl1 hbl2;have z0:=z 0 _ rfl;have z1:=z 1 _ rfl;have z3:=z 3 _ rfl;have z4:=z 4 _ rfl;have z0':=z' 0 _ rfl;have z1':=z' 1 _ rfl;have z3':=z' 3 _ rfl;have z4':=z' 4 _ rfl;have Z:=Zh z;clear z;have Z':=Zh z';clear z';have FR2:=Zh hfr2;clear hfr2;have FR3:=Zh hfr3;clear hfr3 hfr;go_wp2_with fail;refine(sameExprs_any l[j].ret l[j].ret ok A3 A3' c3 c3' wd (R3.out.fr FR2.out (fun _ _=>non _) (fun _ h=>h)) q3 (R3'.out.fr FR2.out (fun _ _=>non _) (fun _ h=>h))).mono ?_;rintro e w2 ⟨rfl,hf2⟩;rw[exs_same_self];clear z0 z1 z3 z4 z0' z1' z3' z4';have z2:=hf2.cell' (Z.out 2 _ rfl) (non _);have z2':=hf2.cell' (Z'.out 2 _ rfl) (non _);have HF2:=Zh hf2;clear hf2;go_wp2_with fail;refine(sameSts_any (St.sizes l[j].body) l[j].body l[j].body ok A2 A2' c2 c2' w2 (Nat.le_refl _) (R2.out.fr (FR2.out.trans HF2.out) (fun _ _=>non _) (fun _ h=>h)) q2 (R2'.out.fr (FR2.out.trans HF2.out) (fun _ _=>non _) (fun _ h=>h))).mono ?_;rintro e w3 ⟨rfl,hf3⟩;rw[sts_same_self];clear z2 z2';have HF3:=Zh (HF2.out.trans hf3);clear hf3;go_wp2_with fail
    go_loopw [8] (fun i wq=>∃k:Nat,i= .int .i64 k∧k≤l[j].params.length∧Fr Non w3 wq) (fun i _=>l[j].params.length-(intOf i).toNat)
    case atStart=>exact⟨0,rfl,by omega,Zf _⟩
    case round=>
     obtain⟨k,rfl,hk,hfq⟩:=hrel;have HFQ:=Zh (HF3.out.trans hfq);have z1:=HFQ.out.cell' (Z.out 1 _ rfl) (non _);have z1':=HFQ.out.cell' (Z'.out 1 _ rfl) (non _);have hl1:l[j].params.length≤140737488355328:=by unfold reach at q1;omega
     by_cases hlk:k<l[j].params.length
     ·obtain⟨d,x1,rfl,hd,y0,y1,y2,y3⟩:=at_pa (R1.out.fr (FR2.out.trans HFQ.out) (fun _ _=>non _) (fun _ h=>h)) k hlk;obtain⟨d',x1',rfl,hd',y0',y1',y2',y3'⟩:=at_pa (R1'.out.fr (FR2.out.trans HFQ.out) (fun _ _=>non _) (fun _ h=>h)) k hlk;have y0:=ext_cell y0;have y1:=ext_cell y1;have y2:=ext_cell y2;have y3:=ext_cell y3;have y0':=ext_cell y0';have y1':=ext_cell y1';have y2':=ext_cell y2';have y3':=ext_cell y3';have z1:=ext_cell z1;have z1':=ext_cell z1';go_wp2_with fail;refine wp_region_ext (by kernel_rfl) (by kernel_rfl) ?_
      repeat (go_big_quiet_step (fail))
      refine wpQuiet_nil ?_;intro w4 hf4;clear y0 y1 y2 y3 y0' y1' y2' y3' z1 z1';go_wp2_with fail;go_roundw
      case rel=>exact⟨k+1,by go_num,by omega,hfq.trans hf4⟩
      case measure=>simp[intOf];omega
     ·go_wp2_with fail;go_roundw
      case rel=>exact⟨j+1,by go_num,by omega,FR3.out.trans HFQ.out⟩
      case measure=>simp[intOf];omega
  ·go_wp2_with fail;go_ret;exact⟨rfl,HFW.out.trans hfr⟩
end Go.Proofs.YtpkpgmnbheenbaaGreatDoor
