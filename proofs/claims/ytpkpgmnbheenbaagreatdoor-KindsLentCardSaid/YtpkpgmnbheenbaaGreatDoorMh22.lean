/- Contracts and laws, Mh22 -/
import Derived.Test.YtpkpgmnbheenbaaGreatDoorMh01
import Derived.Test.YtpkpgmnbheenbaaGreatDoorMh02
import Derived.Test.YtpkpgmnbheenbaaGreatDoorMh03
import Derived.Test.YtpkpgmnbheenbaaGreatDoorMh05
import Derived.Test.YtpkpgmnbheenbaaGreatDoorMh06
import Derived.Test.YtpkpgmnbheenbaaGreatDoorMh07
import Derived.Deep.DeepCutAuto
import Derived.IntWalk
import Derived.Deep.CutBlock
namespace Go.Proofs.YtpkpgmnbheenbaaGreatDoor
open Go.RowKit
set_option linter.unusedVariables false
set_option linter.unusedSimpArgs false
set_option maxHeartbeats 8000000
set_option maxRecDepth 100000
theorem Chunks.at {ok:Nat→Prop} {w:World} {sz:Nat}:∀{l:List (List D)} {xs:List Value} (k:Nat) (hk:k<l.length),Chunks ok w sz l xs→∃us,RdL ok w l[k] us∧us.length=sz∧∀i u,us[i]? =some u→xs[k*sz+i]? =some u
 |ds::l,_,0,_,⟨us,r,rfl,h1,h2,h3,h4⟩=>⟨us,h3,h1,fun i u h=>by
   rw[Nat.zero_mul,Nat.zero_add,List.getElem?_append_left (by have:=(List.getElem?_eq_some_iff.1 h).1;exact this)];exact h⟩
 |ds::l,_,k+1,hk,⟨us,r,rfl,h1,h2,h3,h4⟩=>by
  obtain⟨vs,g1,g2,g3⟩:=Chunks.at k (by simpa using hk) h4;refine⟨vs,by simpa using g1,g2,fun i u h=>?_⟩;rw[List.getElem?_append_right (by rw[h1,Nat.succ_mul];omega),h1];rw[show(k+1)*sz+i-sz=k*sz+i by rw[Nat.succ_mul];omega];exact g3 i u h
theorem OwnX.at {ok:Nat→Prop} {base:Nat} {e:TypeId} {sz:Nat} {w:World} {A:Option Addr} {c n:Nat} {l:List (List D)} (h:OwnX ok base e sz w (.slice A n c) l) (k:Nat) (hk:k<l.length):
  ∃g us,A=some ⟨g,0,none⟩∧base≤g∧RdL ok w l[k] us∧∀i u,us[i]? =some u→w.cell? ⟨g,k*sz+i,none⟩=some u:=by
 obtain⟨xs,h1,h2⟩:=h;obtain⟨us,g1,g2,g3⟩:=Chunks.at k hk h2;have h1':=h1;obtain⟨_,h3⟩:=h1;rcases h3 with⟨hv,h3⟩|⟨g,cap,cur,hv,hb,hh,_⟩
 ·omega
 ·obtain⟨rfl,rfl,rfl⟩:A=some ⟨g,0,none⟩∧n=l.length∧c=cap:=by cases hv;exact⟨rfl,rfl,rfl⟩
  refine⟨g,us,rfl,hb,g1,fun i u hu=>?_⟩;have:=h1'.cells (g:=g) rfl (k*sz+i) u (g3 i u hu);simpa[Addr.add_lit] using this
theorem own_new {ok:Nat→Prop} {base:Nat} {e:TypeId} {sz g:Nat} {w:World} {cur:Array Value} {ds:List D} (hb:base≤g) (hh:w.heap[g]? =some (.cells cur e (0,0))) (hs:cur.size=sz) (hd:ds.length=sz) (hr:RdL ok w ds cur.toList):
  OwnX ok base e sz w (.slice (some ⟨g,0,none⟩) 1 1) [ds]:=
 ⟨cur.toList,⟨by simp[hs],.inr ⟨g,1,cur,rfl,hb,hh,Nat.le_refl _,by decide,by simp[hs],by rw[List.length_singleton,Nat.one_mul];exact List.take_of_length_le (by simp[hs])⟩⟩,cur.toList,[],by simp,by simp[hs],hd,hr,rfl⟩
theorem Ex.ds_append (l r:List Ex):Ex.ds (l++r)=Ex.ds l++Ex.ds r:=by rw[Ex.ds_eq,Ex.ds_eq,Ex.ds_eq,List.map_append]
def SizeB (x:Ex) (e:Ending):Prop:=∃b,e= .returned (.bool b)∧(b=false→x.size≤2000)
theorem sizeT {x:Ex} {v:Value} (h:v= .bool true):SizeB x (.returned v):=⟨true,by rw[h],fun h=>by cases h⟩
theorem sizeF {x:Ex} {v:Value} (h:v= .bool false) (hs:x.size≤2000):SizeB x (.returned v):=⟨false,by rw[h],fun _=>hs⟩
def innerE (l:List Ex):Nat:=(l.map fun e=>Ex.sizes e.kids).sum
theorem innerE_append (l r:List Ex):innerE (l++r)=innerE l+innerE r:=by simp[innerE]
theorem ex_size_eq (e:Ex):e.size=1+Ex.sizes e.kids:=by cases e;rfl
theorem innerE_all (l:List Ex):l.length+innerE l=Ex.sizes l:=by
 induction l with
 |nil=>rfl
 |cons x l ih=>simp only[innerE,List.map_cons,List.sum_cons,List.length_cons,Ex.sizes,ex_size_eq] at ih ⊢;omega
theorem innerE_drop (l:List Ex) (j:Nat) (h:j<l.length):innerE (l.drop j)=Ex.sizes l[j].kids+innerE (l.drop (j+1)):=by
 rw[List.drop_eq_getElem_cons h,innerE,List.map_cons,List.sum_cons];rfl
theorem workE_step (l:List Ex) (j:Nat) (h:j<l.length):(l++l[j].kids).length+innerE ((l++l[j].kids).drop (j+1))=l.length+innerE (l.drop j):=by
 rw[innerE_drop l j h,List.drop_append_of_le_length (by omega),innerE_append,List.length_append,←innerE_all l[j].kids];omega
theorem large07_any (e:Ex) (ok:Nat→Prop) (A:Option Addr) (c:Nat) (w:World) (hr:RdRows ok w 5 A 0 (Ex.ds e.kids)) (h1:e.kids.length≤c) (h2:e.kids.length*64≤reach) (hok:∀q,ok q→q<w.heap.size):
  Calls Tryz.prog 35 #[exV e.kind e.num e.name e.op A e.kids.length c] w fun r w'=>SizeB e r∧Fr Non w w':=by
 have HOK:=Zh hok;clear hok;obtain⟨W1,HW1⟩:∃W1,W1=(w.alloc (.cells #[vu8 e.kind,vu64 e.num,.string e.name,vu8 e.op,.slice A e.kids.length c] 48)).alloc (.cells #[vu8 e.kind,vu64 e.num,.string e.name,vu8 e.op,.slice A e.kids.length c] 48):=⟨_,rfl⟩;have hf1:Fr Non w W1:=by rw[HW1];exact((Zf w).alloc _).alloc _
 have hb1:W1.heap[w.heap.size+1]? =some (.cells #[vu8 e.kind,vu64 e.num,.string e.name,vu8 e.op,.slice A e.kids.length c] 48 (0,0)):=by rw[HW1];exact blk_new' (by simp) _ _
 have HOW:=Zh (own_new (ok:=ok) (base:=w.heap.size) (ds:=e.d) (sz:=5) (by omega) hb1 rfl (by cases e;rfl) (by
  have hr1:=hr.fr hf1 (fun _ _=>non _) (fun _ h=>h);cases e with
  |mk k n s o l=>
   have hlen:(Ex.ds l).length=l.length:=by rw[Ex.ds_eq,List.length_map]
   refine⟨_,_,rfl,rfl,_,_,rfl,rfl,_,_,rfl,rfl,_,_,rfl,rfl,_,_,rfl,⟨A,c,?_,?_,?_,hr1⟩,rfl⟩
   ·show Value.slice A l.length c=_;rw[hlen]
   ·rw[hlen];exact h1
   ·rw[hlen];exact h2))
 have HF1:=Zh hf1;clear hf1 hb1 hr h1 h2;go_enter Tryz.func35,Tryz.ntmps35;go_upto_region 2 with fail;rw[show((w.alloc (.cells #[vu8 e.kind,vu64 e.num,.string e.name,vu8 e.op,.slice A e.kids.length c] 48)).alloc (.cells #[vu8 e.kind,vu64 e.num,.string e.name,vu8 e.op,.slice A e.kids.length c] 48))=W1 from HW1.symm];clear HW1;go_wp2_with fail
 go_loopw [3,4,5] (fun v t i wr=>∃(l:List Ex) (j:Nat) (n:Int),i= .int .i64 j∧t= .int .i64 n∧j≤l.length∧l.length≤2000∧l.length+innerE (l.drop j)=e.size∧OwnX ok w.heap.size 48 5 wr v (Ex.ds l)∧Fr Non w wr) (fun _ _ i _=>2001-(intOf i).toNat)
 case atStart=>exact⟨[e],0,0,rfl,rfl,by simp,by simp,by simp[innerE,ex_size_eq],HOW.out,HF1.out⟩
 case round=>
  obtain⟨l,j,n,rfl,rfl,hj,hl2,hin,how,hfr⟩:=hrel;have HIN:=Zh hin;clear hin;obtain⟨A1,c1,hv,hc1⟩:=how.slice;rw[Ex.ds_length] at hv hc1;subst hv;have HOX:=Zh how;by_cases hlt:j<l.length
  ·obtain⟨g,us,rfl,hg,hrd,hce⟩:=how.at j (by rw[Ex.ds_length];exact hlt);have hd:(Ex.ds l)[j]'(by rw[Ex.ds_length];exact hlt)=l[j].d:=by simp[Ex.ds_eq]
   rw[hd] at hrd;have HX:=Zh (take_snoc l j hlt);have HWS:=Zh (workE_step l j hlt);generalize l[j]=x at*;obtain⟨xk,xn,xs,xo,xl⟩:=x;obtain⟨_,_,rfl,rfl,_,_,rfl,rfl,_,_,rfl,rfl,_,_,rfl,rfl,_,_,rfl,⟨A2,c2,rfl,hk1,hk2,hk3⟩,rfl⟩:=hrd;have e2:=hce 2 _ rfl;have e4:=hce 4 _ rfl;rw[Ex.ds_length] at e4 hk1 hk2;have hl9:xl.length≤140737488355328:=by unfold reach at hk2;omega
   clear hce how;have HK3:=Zh hk3;clear hk3;have HF:=Zh hfr;clear hfr;go_upto_region 9 with fail;all_goals try (go_ret;exact⟨sizeT rfl,HF.out⟩)
   ·rename_i hA hB;have hsum:l.length+xl.length≤2000:=by omega
    have HSUM:=Zh hsum;clear hsum hA hB;go_wp2_with (at_builtin;(refine appX_ex rfl _ _ rfl ok w.heap.size (.slice (some ⟨g,0,none⟩) l.length c1) (Ex.ds l) rfl HOX.out HOK.out A2 c2 (Ex.ds xl) (by rw[Ex.ds_length];rfl) HK3.out (one_exs _) ?b1 ?b2 ?b3 ?k))
    case b1=>rw[Ex.ds_length,Ex.ds_length];have:=HSUM.out;unfold maxLen;omega
    case b2=>rw[Ex.ds_length,Ex.ds_length];have:=HSUM.out;omega
    case b3=>exact HF.out.size
    case k=>
    intro v3 w3 hown3 hf3;rw[←Ex.ds_append] at hown3;have HF3:=Zh (HF.out.then hf3 fun k hk h=>by omega);have HO3:=Zh hown3;clear hown3 hf3;go_wp2_with fail;go_roundw
    case rel=>exact⟨l++xl,j+1,_,by go_num,rfl,by rw[List.length_append];omega,by rw[List.length_append];exact HSUM.out,HWS.out.trans HIN.out,HO3.out,HF3.out⟩
    case measure=>simp[intOf];omega
  ·go_wp2_with fail;go_ret;have hje:j=l.length:=by omega
   have h9:=HIN.out;rw[hje,List.drop_length] at h9;exact⟨sizeF rfl (by simp[innerE] at h9;omega),hfr⟩
theorem appR_of {t e:TypeId} {z:Value} {size bytes:Nat} (ht:Tryz.prog.underlying t=some (.slice e)) (hi:(Tryz.prog.info? e).map (fun i=>(i.zero,i.size,i.bytes))=some (some z,size,bytes)) (hzs:z.cells.size=size) (hsz:0<size) (ty:TypeId)
  (ok:Nat→Prop) (base:Nat) (v:Value) (w:World) (l:List (List D)) (hown:OwnX ok base e size w v l) (hokb:∀k,ok k→k<base) (A:Option Addr) (c:Nat) (l':List (List D)) (hrd:RdRows ok w size A 0 l') (hone:∀ds∈l',∀d∈ds,d.one)
  (h63:l.length+l'.length≤maxLen) (hbytes:((l.length+l'.length)+(l.length+l'.length) / 4+192)*bytes≤281474976710656) (hbase:base≤w.heap.size):
  ∃v' w',(Builtin.append_ #[t,t] ty #[v,.slice A l'.length c]).run Tryz.prog w= .ok v' w'∧OwnX ok base e size w' v' (l++l')∧Fr (fun k=>base≤k∧v.ownBlock=some k) w w':=by
 obtain⟨i0,h0,h1,h2,h3⟩:=info_parts hi;obtain⟨xs,hrow,hcs⟩:=hown;cases A with
 |some ad=>
  obtain⟨us,hch,hce⟩:∃us,Chunks ok w size l' us∧∀j u,us[j]? =some u→w.cell? (ad.add j)=some u:=by
   by_cases hne:l'=[]
   ·subst hne;exact⟨[],rfl,fun j u hu=>by simp at hu⟩
   ·obtain⟨ad',us,e,g1,g2⟩:=hrd.src hne;cases e;exact⟨us,g1,g2⟩
  obtain⟨v',w',hr,hrow',hg,hwh⟩:=run_append_where (P:=Tryz.prog) w base t ty e i0 z size bytes ht h0 h1 h2 h3 hzs hsz v l.length xs hrow ad l'.length c us hch.length hce (hch.ones hone) h63 hbytes hbase;have hfr:Fr (fun k=>base≤k∧v.ownBlock=some k) w w':=⟨hg.os,hg.tape,hg.output,hg.size,fun k hk hn=>hg.block k hk fun e=>hn ⟨(hrow.lt k e.symm).1,e.symm⟩⟩;have key:∀b o u,ok b→w.cell? ⟨b,o,none⟩=some u→w'.cell? ⟨b,o,none⟩=some u:=fun b o u hb hc=>hfr.cell' hc fun hx=>by have h8:=hokb b hb;have h9:base≤b:=hx.1;omega
  exact⟨v',w',hr,⟨xs++us,by rw[List.length_append];exact hrow',Chunks.append (hch.mono key fun _ h=>h) (hcs.mono key fun _ h=>h)⟩,hfr⟩
 |none=>
  have hne:l'=[]:=by
   cases l' with
   |nil=>rfl
   |cons ds l'=>obtain⟨⟨b,o,e,_⟩,_⟩:=hrd;cases e
  subst hne;have hr:(Builtin.append_ #[t,t] ty #[v,.slice none ([]:List (List D)).length c]).run Tryz.prog w= .ok v w:=by
   rcases hrow.2 with⟨rfl,h9⟩|⟨g,cap,cur,rfl,_,_,hnc,_⟩
   ·simp[Builtin.append_,run_underlying ht,sizeOf,typeInfo,h0,Builtin.lenOf,Builtin.firstCells]
   ·simp[Builtin.append_,run_underlying ht,sizeOf,typeInfo,h0,Builtin.lenOf,Builtin.firstCells,hnc,storeCells]
  exact⟨v,w,hr,by rw[List.append_nil];exact⟨xs,hrow,hcs⟩,Fr.refl _ _⟩
theorem appR_st (ok:Nat→Prop) (base:Nat) (v:Value) (w:World) (l:List St) (hown:OwnX ok base 42 9 w v (St.ds l)) (hokb:∀k,ok k→k<base) (A:Option Addr) (c:Nat) (l':List St) (hrd:RdRows ok w 9 A 0 (St.ds l'))
  (hl:l.length≤900) (hq:l'.length*144≤reach) (hbase:base≤w.heap.size):
  ∃A' c' w',(Builtin.append_ #[40,40] 40 #[v,.slice A l'.length c]).run Tryz.prog w= .ok (.slice A' (l++l').length c') w'∧OwnX ok base 42 9 w' (.slice A' (l++l').length c') (St.ds (l++l'))∧Fr (fun k=>base≤k∧v.ownBlock=some k) w w':=by
 have h1:(St.ds l).length=l.length:=by rw[St.ds_eq,List.length_map]
 have h2:(St.ds l').length=l'.length:=by rw[St.ds_eq,List.length_map]
 have h3:St.ds l++St.ds l'=St.ds (l++l'):=by rw[St.ds_eq,St.ds_eq,St.ds_eq,List.map_append]
 have h4:(St.ds (l++l')).length=(l++l').length:=by rw[St.ds_eq,List.length_map]
 obtain⟨v',w',g1,g2,g3⟩:=appR_of (z:=stZ) (t:=40) (e:=42) (size:=9) (bytes:=144) (by kernel_rfl) (by kernel_rfl) rfl (by decide) 40 ok base v w (St.ds l) hown hokb A c (St.ds l') hrd (one_sts _) (by rw[h1,h2];unfold reach at hq;unfold maxLen;omega) (by rw[h1,h2];unfold reach at hq;omega) hbase;rw[h2] at g1;rw[h3] at g2;obtain⟨A',c',rfl,_⟩:=g2.slice;rw[h4] at g1 g2;exact⟨A',c',w',g1,g2,g3⟩
theorem inner_append (l r:List St):inner (l++r)=inner l+inner r:=by simp[inner]
theorem inner_drop (l:List St) (j:Nat) (h:j<l.length):inner (l.drop j)=(St.sizes l[j].body+St.sizes l[j].els)+inner (l.drop (j+1)):=by
 rw[List.drop_eq_getElem_cons h,inner,List.map_cons,List.sum_cons];rfl
theorem sizes_append (l r:List St):St.sizes (l++r)=St.sizes l+St.sizes r:=by rw[←inner_all,←inner_all l,←inner_all r,inner_append,List.length_append];omega
theorem work_step (l:List St) (j:Nat) (h:j<l.length):(l++l[j].body++l[j].els).length+inner ((l++l[j].body++l[j].els).drop (j+1))=l.length+inner (l.drop j):=by
 rw[inner_drop l j h,List.append_assoc,List.drop_append_of_le_length (by omega),inner_append,inner_append,List.length_append,List.length_append,←inner_all l[j].body,←inner_all l[j].els];omega
theorem fsizes_top (P:List Fu):∀j,St.sizes ((P.take j).flatMap fun f=>f.body)=Fu.sizes (P.take j):=by
 intro j;generalize P.take j=l
 induction l with
 |nil=>rfl
 |cons f l ih=>simp only[List.flatMap_cons,Fu.sizes,Fu.size] at ih ⊢;rw[sizes_append,ih]
theorem OwnX.lt {ok:Nat→Prop} {base:Nat} {e:TypeId} {sz:Nat} {w:World} {v:Value} {l:List (List D)} (h:OwnX ok base e sz w v l) (k:Nat) (hk:v.ownBlock=some k):k<w.heap.size:=by
 obtain⟨xs,h1,_⟩:=h;exact(h1.lt k hk).2
theorem app_step {P:Program} {ops:Array Oper} {o:Oper} {a:Act} {K:Act→World→Prop} {Q:Exit→Act→World→Prop} {w w':World} {t:TypeId} {v u v':Value} (hgd:o.guard=none) (s x:Operand)
  (ho:o.op= .call {callee:=.builtin .append,args:=#[s,x],argTypes:=#[t,t]}) (hs:a.eval s=v) (hx:a.eval x=u) (hr:(Builtin.append_ #[t,t] o.type #[v,u]).run P w= .ok v' w')
  (h:K (a.put o.dst v') w'):if Region.wanted o (yielded ops a.tmps)=true then Oper.wp P o a w K Q else K (a.put o.dst undef) w:=by
 rw[if_pos (by simp[Region.wanted,hgd])];unfold Oper.wp execOp;simp only[ho,resolve,invoke,builtin,Sem.run_bind,Sem.run_pure,Result.andThen_ok,List.map_toArray,List.map_cons,List.map_nil,hs,hx,hr];exact h
mutual
def St.light:St→Prop
 | .mk _ _ _ _ _ ex _ body els=>(∀e∈ex,e.size≤2000)∧St.lights body∧St.lights els
def St.lights:List St→Prop
 |[]=>True
 |s::l=>s.light∧St.lights l
end
theorem St.light_eq (s:St):s.light=((∀e∈s.ex,e.size≤2000)∧St.lights s.body∧St.lights s.els):=by cases s;rfl
theorem lights_iff:∀l:List St,St.lights l↔∀s∈l,s.light
 |[]=>by simp[St.lights]
 |s::l=>by simp[St.lights,lights_iff l]
theorem lights_append (l r:List St):St.lights (l++r)↔St.lights l∧St.lights r:=by
 rw[lights_iff,lights_iff,lights_iff];simp only[List.mem_append];exact⟨fun h=>⟨fun s hs=>h s (.inl hs),fun s hs=>h s (.inr hs)⟩,fun h s hs=>hs.elim (h.1 s) (h.2 s)⟩
theorem lights_step (l:List St) (j:Nat) (h:j<l.length) (hx:∀e∈l[j].ex,e.size≤2000) (hd:St.lights ((l++l[j].body++l[j].els).drop (j+1))):St.lights (l.drop j):=by
 rw[List.append_assoc,List.drop_append_of_le_length (by omega),lights_append,lights_append] at hd;rw[List.drop_eq_getElem_cons h,St.lights,St.light_eq];exact⟨⟨hx,hd.2.1,hd.2.2⟩,hd.1⟩
def Rets (l:List Fu):Prop:=∀f∈l,∀e∈f.ret,e.size≤2000
theorem rets_snoc {l:List Fu} {f:Fu} (h:Rets l) (hf:∀e∈f.ret,e.size≤2000):Rets (l++[f]):=by
 intro g hg;rcases List.mem_append.1 hg with hg|hg
 ·exact h g hg
 ·rw[List.mem_singleton.1 hg];exact hf
def Fu.light (f:Fu):Prop:=St.lights f.body∧∀e∈f.ret,e.size≤2000
theorem lights_flat:∀(P:List Fu),St.lights (P.flatMap fun f=>f.body)→Rets P→∀f∈P,f.light
 |[],_,_,f,hf=>by cases hf
 |g::P,h,hr,f,hf=>by
  rw[List.flatMap_cons,lights_append] at h;rcases List.mem_cons.1 hf with rfl|hf
  ·exact⟨h.1,hr f (by simp)⟩
  ·exact lights_flat P h.2 (fun g' hg'=>hr g' (by simp[hg'])) f hf
theorem all_till {l:List Ex} {k:Nat} (hk:l.length≤k) (h:∀i (hi:i<l.length),i<k→l[i].size≤2000):∀e∈l,e.size≤2000:=fun e he=>by
 obtain⟨i,hi,rfl⟩:=List.mem_iff_getElem.1 he;exact h i hi (by omega)
theorem till_snoc {l:List Ex} {k:Nat} (h:∀i (hi:i<l.length),i<k→l[i].size≤2000) (hk:∀hk:k<l.length,l[k].size≤2000):∀i (hi:i<l.length),i<k+1→l[i].size≤2000:=fun i hi hik=>by
 rcases Nat.lt_or_eq_of_le (Nat.le_of_lt_succ hik) with h'|rfl
 ·exact h i hi h'
 ·exact hk hi
def LargeR (P:List Fu) (e:Ending):Prop:=∃b,e= .returned (.bool b)∧(b=false→P.length≤30∧Fu.sizes P≤900∧∀f∈P,f.light)
theorem largeT {P:List Fu} {v:Value} (h:v= .bool true):LargeR P (.returned v):=⟨true,by rw[h],fun h=>by cases h⟩
theorem largeB {P:List Fu} {b:Bool} {v:Value} (h:v= .bool b) (hb:b=false→P.length≤30∧Fu.sizes P≤900∧∀f∈P,f.light):LargeR P (.returned v):=⟨b,by rw[h],hb⟩
theorem large08_any (P:List Fu) (ok:Nat→Prop) (A:Option Addr) (c:Nat) (w:World) (hr:RdRows ok w 5 A 0 (P.map Fu.d)) (hc:P.length*96≤reach) (hok:∀q,ok q→q<w.heap.size):
  Calls Tryz.prog 12 #[.agg #[.slice A P.length c]] w fun e w'=>LargeR P e∧Fr Non w w':=by
 have hlen:P.length≤140737488355328:=by unfold reach at hc;omega
 have HOK:=Zh hok;clear hok;obtain⟨W1,HW1⟩:∃W1,W1=w.alloc (.cells #[.slice A P.length c] 24):=⟨_,rfl⟩;have hf1:Fr Non w W1:=by rw[HW1];exact(Zf w).alloc _
 have hb1:W1.heap[w.heap.size]? =some (.cells #[.slice A P.length c] 24 (0,0)):=by rw[HW1];exact blk_new _ _ _
 have hzW:W1.heap.size=w.heap.size+1:=by rw[HW1];simp
 have HR:=Zh (hr.fr hf1 (fun _ _=>non _) (fun _ h=>h));clear hr;have HF1:=Zh hf1;clear hf1;have HB1:=Zh hb1;clear hb1;go_enter Tryz.func12,Tryz.ntmps12;go_upto_region 1 with fail;rw[←HW1];clear HW1;go_upto_block 0 with fail
 go_cut [3,4,5] (fun v3 v4 v5 wx=>∃(R:List St) (n:Int),v3= .int .i64 n∧R.length≤900∧(P.length≤30→St.sizes R=Fu.sizes P∧R=P.flatMap (fun f=>f.body)∧Rets P)∧OwnX ok (w.heap.size+1) 42 9 wx v4 (St.ds R)∧Fr Non W1 wx)
 case first=>
  have hz1:w.heap.size<W1.heap.size:=blk_lt HB1.out;go_wp2_with fail
  go_loopw [3,4,5] (fun t v i wr=>∃(j:Nat) (n:Int),i= .int .i64 j∧t= .int .i64 n∧j≤P.length∧j≤40∧((P.take j).flatMap fun f=>f.body).length≤900∧Rets (P.take j)∧OwnX ok (w.heap.size+1) 42 9 wr v (St.ds ((P.take j).flatMap fun f=>f.body))∧Fr Non W1 wr) (fun _ _ i _=>P.length-(intOf i).toNat)
  case atStart=>exact⟨0,0,rfl,rfl,by omega,by omega,by simp,fun f hf=>by simp at hf,OwnX.nil _ _ _ _ _,Zf _⟩
  case round=>
   obtain⟨j,n,rfl,rfl,hj,hj4,hl9,hrt,how,hfr⟩:=hrel;have HRT:=Zh hrt;clear hrt;have g0:=hfr.cell' ((Zc HB1.out).1 0 _ rfl) (non _);have HTF:=Zh (fsizes_top P j);by_cases hlt:j<P.length
   ·by_cases h40:j<40
    ·obtain⟨b,o1,A1,c1,A2,c2,A3,c3,rfl,hb,e0,e1,e2,e3,e4,⟨p1,q1,r1⟩,⟨p2,q2,r2⟩,⟨p3,q3,r3⟩⟩:=at_fu (HR.out.fr hfr (fun _ _=>non _) (fun _ h=>h)) j hlt;have HTS:=Zh (take_snoc P j hlt);have hl1:P[j].params.length≤140737488355328:=by unfold reach at q1;omega
     have hl2:P[j].body.length≤140737488355328:=by unfold reach at q2;omega
     have hl3:P[j].ret.length≤140737488355328:=by unfold reach at q3;omega
     generalize hf:P[j]=f at*;clear hf;go_upto_region 8 with fail;obtain⟨W2,HW2⟩:∃W2,W2=wr.alloc (.cells #[.string f.name,.slice A1 f.params.length c1,.slice A2 f.body.length c2,.bool f.sec,.slice A3 f.ret.length c3] 53):=⟨_,rfl⟩;rw[←HW2];have hf2:Fr Non wr W2:=by rw[HW2];exact(Zf wr).alloc _
     have hbx:W2.heap[wr.heap.size]? =some (.cells #[.string f.name,.slice A1 f.params.length c1,.slice A2 f.body.length c2,.bool f.sec,.slice A3 f.ret.length c3] 53 (0,0)):=by rw[HW2];exact blk_new _ _ _
     clear HW2;have x2:=(Zc hbx).1 2 _ rfl;have hzr:W1.heap.size≤wr.heap.size:=hfr.size;have hz2:=hf2.size;have HBX:=Zh hbx;clear hbx;have HR1:=Zh (r1.fr hf2 (fun _ _=>non _) (fun _ h=>h));clear r1;have HR2:=Zh (r2.fr hf2 (fun _ _=>non _) (fun _ h=>h));clear r2;have HR3:=Zh (r3.fr hf2 (fun _ _=>non _) (fun _ h=>h));clear r3;have HOW:=Zh (how.fr hf2 (fun k _=>non k) (fun k _=>non k));have HLT:=Zh how.lt;clear how;have HF2:=Zh (hfr.trans hf2);clear hfr hf2 g0 e0 e1 e2 e3 e4;have hdl:(St.ds f.body).length=f.body.length:=by rw[St.ds_eq,List.length_map]
     go_wp2_with (at_builtin;refine appX_st rfl _ _ rfl ok (w.heap.size+1) u4 (St.ds ((P.take j).flatMap fun f=>f.body)) rfl HOW.out ?okb A2 c2 (St.ds f.body) (by rw[hdl];rfl) HR2.out (one_sts _) ?b1 ?b2 ?b3 ?k)
     case okb=>intro k hk;have:=HOK.out k hk;omega
     case b1=>rw[hdl,St.ds_eq,List.length_map];unfold reach at q2;unfold maxLen;omega
     case b2=>rw[hdl,St.ds_eq,List.length_map];unfold reach at q2;omega
     case b3=>omega
     case k=>
     intro v3 w3 hown3 hf3;have hbx3:=Zb HBX.out hf3 (by rintro⟨_,h2⟩;have:=HLT.out _ h2;omega);have HF3:=Zh (HF2.out.then hf3 fun k hk h=>by omega);have HR1':=Zh (HR1.out.fr hf3 (fun q hq h=>by have:=HOK.out q hq;omega) (fun _ h=>h));have HR3':=Zh (HR3.out.fr hf3 (fun q hq h=>by have:=HOK.out q hq;omega) (fun _ h=>h));have hz3:=hf3.size;clear hf3 x2;have hcat:St.ds ((P.take j).flatMap fun f=>f.body)++St.ds f.body=St.ds ((P.take (j+1)).flatMap fun f=>f.body):=by
      rw[HTS.out,List.flatMap_append,St.ds_eq,St.ds_eq,St.ds_eq,List.map_append];simp
     rw[hcat] at hown3;obtain⟨A4,c4,hv3,hc4⟩:=hown3.slice;have hdl4:(St.ds ((P.take (j+1)).flatMap fun f=>f.body)).length=((P.take (j+1)).flatMap fun f=>f.body).length:=by rw[St.ds_eq,List.length_map]
     rw[hdl4] at hv3 hc4;subst hv3;generalize hR:((P.take (j+1)).flatMap fun f=>f.body)=R at*;have HRR:=Zh hR;clear hR hdl4 hcat hdl;have HO3:=Zh hown3;clear hown3;have HBX3:=Zh hbx3;clear hbx3;obtain⟨wp,rfl⟩:∃wp:World,wp=wr:=⟨_,rfl⟩;go_upto_block 2 with fail
     go_cut [7] (fun v7 wx=>Fr Non w3 wx∧(f.ret.length≤20→∀e∈f.ret,e.size≤2000))
     case first=>
      go_wp2_with fail
      go_loopw [7] (fun i wq=>∃k:Nat,i= .int .i64 k∧k≤f.ret.length∧k≤20∧(∀i (hi:i<f.ret.length),i<k→f.ret[i].size≤2000)∧Fr Non w3 wq) (fun i _=>f.ret.length-(intOf i).toNat)
      case atStart=>exact⟨0,rfl,by omega,by omega,fun i _ h=>by omega,Zf _⟩
      case round=>
       obtain⟨k,rfl,hk,hk20,htl,hfq⟩:=hrel;have HTL:=Zh htl;clear htl;have hbq:=Zb HBX3.out hfq (non _);have x4:=(Zc hbq).1 4 _ rfl;by_cases hk1:k<f.ret.length
       ·by_cases hk2:k<20
        ·obtain⟨b5,o5,A5,c5,rfl,hb5,y0,y1,y2,y3,y4,y5,y6,y7⟩:=at_ex (HR3'.out.fr hfq (fun _ _=>non _) (fun _ h=>h)) k hk1;have HFQ:=Zh hfq;clear hfq;have HLG:=Zh (large07_any f.ret[k] ok A5 c5 wr y7 y5 y6 (fun q hq=>by have:=HOK.out q hq;have:=HFQ.out.size;omega));clear y5 y6 y7 hbq;go_wp2_with fail;refine HLG.out.mono ?_;rintro e w5 ⟨⟨b6,rfl,hb6⟩,hf5⟩;have HB6:=Zh hb6;clear hb6;have HF5:=Zh (HFQ.out.trans hf5);clear hf5;cases b6 with
         |true=>
          go_wp2_with fail;go_ret;exact⟨largeT rfl,HF1.out.trans (HF3.out.trans HF5.out)⟩
         |false=>
          go_wp2_with fail;go_roundw
          case rel=>exact⟨k+1,by go_num,by omega,by omega,till_snoc HTL.out fun _=>by simpa using HB6.out,HF5.out⟩
          case measure=>simp[intOf];omega
        ·go_wp2_with fail
         go_meet
         exact⟨hfq,fun h=>all_till (k:=k) (by omega) HTL.out⟩
       ·go_wp2_with fail
        go_meet
        exact⟨hfq,fun h=>all_till (k:=k) (by omega) HTL.out⟩
     case rest=>
      obtain⟨hcut,hre⟩:=hcut;have HRE:=Zh hre;clear hre;have HF4:=Zh (HF3.out.trans hcut);have hb4:=Zb HBX3.out hcut (non _);have HO4:=Zh (HO3.out.fr hcut (fun k _=>non k) (fun k _=>non k));have HR1q:=Zh (HR1'.out.fr hcut (fun _ _=>non _) (fun _ h=>h));have x1:=(Zc hb4).1 1 _ rfl;have x4:=(Zc hb4).1 4 _ rfl;clear hcut hb4;obtain⟨wq,rfl⟩:∃wq:World,wq=wc:=⟨_,rfl⟩;go_upto_block 4 with fail
      go_cut [3,8] (fun v3 v8 wx=>wx=wq∧∃n:Int,v3= .int .i64 n)
      case first=>
       go_wp2_with fail
       go_loop [3,8] (fun t i=>∃(k:Nat) (n:Int),i= .int .i64 k∧t= .int .i64 n∧k≤f.params.length) (fun _ i=>f.params.length-(intOf i).toNat)
       case atStart=>exact⟨0,_,rfl,rfl,by omega⟩
       case round=>
        obtain⟨k,n2,rfl,rfl,hk⟩:=hrel;by_cases hk1:k<f.params.length
        ·by_cases hk2:k<40
         ·obtain⟨b5,o5,rfl,hb5,y0,y1,y2,y3⟩:=at_pa HR1q.out k hk1;go_wp2_with fail
          go_round
          case rel=>exact⟨k+1,_,by go_num,rfl,by omega⟩
          case measure=>simp[intOf];omega
         ·go_wp2_with fail
          go_meet
          exact⟨rfl,_,rfl⟩
        ·go_wp2_with fail
         go_meet
         exact⟨rfl,_,rfl⟩
      case rest=>
       obtain⟨rfl,n2,rfl⟩:=hcut;by_cases h9:R.length≤900
       ·go_wp2_with fail;all_goals first
         |(go_ret;exact⟨largeT rfl,HF1.out.trans HF4.out⟩)
         |(go_roundw;(case rel=>exact⟨j+1,_,by go_num,rfl,by omega,by omega,by rw[HRR.out];exact h9,by rw[HTS.out];exact rets_snoc HRT.out (HRE.out (by omega)),by rw[HRR.out];exact HO4.out,HF4.out⟩);(case measure=>simp[intOf];omega))
       ·go_wp2_with fail;all_goals
         go_ret;exact⟨largeT rfl,HF1.out.trans HF4.out⟩
    ·go_wp2_with fail
     go_meet
     exact⟨_,_,rfl,hl9,fun h=>by omega,how,hfr⟩
   ·go_wp2_with fail
    go_meet
    have hje:j=P.length:=by omega
    subst hje;have hrt:=HRT.out;rw[List.take_length] at hrt;exact⟨_,_,rfl,hl9,fun h=>⟨by rw[HTF.out,List.take_length],by rw[List.take_length],hrt⟩,how,hfr⟩
 case rest=>
  obtain⟨R0,n0,rfl,hR0,hsz0,how0,hf0⟩:=hcut;have HOW0:=Zh how0;clear how0;have HF0:=Zh hf0;clear hf0;have HSZ0:=Zh hsz0;clear hsz0;obtain⟨wz,rfl⟩:∃wz:World,wz=wc:=⟨_,rfl⟩;go_upto_block 6 with fail
  go_cut [3,4,9] (fun v3 v4 v9 wx=>∃n:Int,v3= .int .i64 n∧St.sizes R0≤900∧St.lights R0∧Fr Non W1 wx)
  case first=>
   go_wp2_with fail
   go_loopw [3,4,9] (fun t v i wr=>∃(R:List St) (j:Nat) (n:Int),i= .int .i64 j∧t= .int .i64 n∧j≤R.length∧R.length≤900∧R.length+inner (R.drop j)=St.sizes R0∧(St.lights (R.drop j)→St.lights R0)∧OwnX ok (w.heap.size+1) 42 9 wr v (St.ds R)∧Fr Non W1 wr) (fun _ _ i _=>901-(intOf i).toNat)
   case atStart=>exact⟨R0,0,_,rfl,rfl,by omega,hR0,by rw[List.drop_zero];exact inner_all R0,fun h=>by rw[List.drop_zero] at h;exact h,HOW0.out,HF0.out⟩
   case round=>
    obtain⟨R,j,n,rfl,rfl,hj,hR,hin,hli,how,hfr⟩:=hrel;have HLI:=Zh hli;clear hli;have hdR:(St.ds R).length=R.length:=by rw[St.ds_eq,List.length_map]
    obtain⟨A1,c1,hv,hc1⟩:=how.slice;rw[hdR] at hv hc1;subst hv;by_cases hlt:j<R.length
    ·obtain⟨g,us,rfl,hg,hrd,hce⟩:=how.at j (by rw[hdR];exact hlt);have hd:(St.ds R)[j]'(by rw[hdR];exact hlt)=R[j].d:=by simp[St.ds_eq]
     rw[hd] at hrd;have HWS:=Zh (work_step R j hlt);have HWL:=Zh (lights_step R j hlt);generalize R[j]=x at*;obtain⟨xk,xn,xf,xs,xm,xe,xa,xb,xl⟩:=x;obtain⟨_,_,rfl,rfl,_,_,rfl,rfl,_,_,rfl,rfl,_,_,rfl,rfl,_,_,rfl,rfl,_,_,rfl,⟨B1,d1,rfl,k1,l1,r1⟩,_,_,rfl,⟨B2,d2,rfl,k2,l2,r2⟩,_,_,rfl,⟨B3,d3,rfl,k3,l3,r3⟩,_,_,rfl,⟨B4,d4,rfl,k4,l4,r4⟩,rfl⟩:=hrd;have e0:=hce 0 _ rfl;have e1:=hce 1 _ rfl;have e2:=hce 2 _ rfl;have e3:=hce 3 _ rfl;have e4:=hce 4 _ rfl;have e5:=hce 5 _ rfl;have e6:=hce 6 _ rfl;have e7:=hce 7 _ rfl;have e8:=hce 8 _ rfl;clear hce;rw[Nat.add_zero] at e0;have hdb:(St.ds xb).length=xb.length:=by rw[St.ds_eq,List.length_map]
     have hdc:(St.ds xl).length=xl.length:=by rw[St.ds_eq,List.length_map]
     rw[Ex.ds_length] at e5 k1 l1;rw[List.length_map] at e6 k2 l2;rw[hdb] at e7 k3 l3;rw[hdc] at e8 k4 l4;have m1:xe.length≤140737488355328:=by unfold reach at l1;omega
     have m2:xa.length≤140737488355328:=by unfold reach at l2;omega
     have m3:xb.length≤140737488355328:=by unfold reach at l3;omega
     have m4:xl.length≤140737488355328:=by unfold reach at l4;omega
     go_upto_region 24 with fail;obtain⟨W2,HW2⟩:∃W2,W2=wr.alloc (.cells #[vu8 xk,.string xn,.string xf,.bool xs,.bool xm,.slice B1 xe.length d1,.slice B2 xa.length d2,.slice B3 xb.length d3,.slice B4 xl.length d4] 42):=⟨_,rfl⟩;rw[←HW2];have hf2:Fr Non wr W2:=by rw[HW2];exact(Zf wr).alloc _
     have hbx:W2.heap[wr.heap.size]? =some (.cells #[vu8 xk,.string xn,.string xf,.bool xs,.bool xm,.slice B1 xe.length d1,.slice B2 xa.length d2,.slice B3 xb.length d3,.slice B4 xl.length d4] 42 (0,0)):=by rw[HW2];exact blk_new _ _ _
     clear HW2 e0 e1 e2 e3 e4 e5 e6 e7 e8;have x1:=(Zc hbx).1 1 _ rfl;have x2:=(Zc hbx).1 2 _ rfl;have x5:=(Zc hbx).1 5 _ rfl;have x6:=(Zc hbx).1 6 _ rfl;have x7:=(Zc hbx).1 7 _ rfl;have x8:=(Zc hbx).1 8 _ rfl;have hzr:W1.heap.size≤wr.heap.size:=hfr.size;have hz2:=hf2.size;have HBX:=Zh hbx;clear hbx;have HR1:=Zh (r1.fr hf2 (fun _ _=>non _) (fun _ h=>h));clear r1;have HR2:=Zh (r2.fr hf2 (fun _ _=>non _) (fun _ h=>h));clear r2;have HR3:=Zh (r3.fr hf2 (fun _ _=>non _) (fun _ h=>h));clear r3;have HR4:=Zh (r4.fr hf2 (fun _ _=>non _) (fun _ h=>h));clear r4;have HOW:=Zh (how.fr hf2 (fun k _=>non k) (fun k _=>non k));have HLT:=Zh how.lt;clear how;have HF2:=Zh (hfr.trans hf2);clear hfr hf2;obtain⟨wp,rfl⟩:∃wp:World,wp=wr:=⟨_,rfl⟩;by_cases h9:R.length+xb.length+xl.length≤900
     ·go_upto_block 8 with fail;all_goals try (go_ret;exact⟨largeT rfl,HF1.out.trans HF2.out⟩)
      have HX:=Zh x1;clear x1 x2 x6;have X7:=Zh x7;clear x7 HX;have X8:=Zh x8;clear x8;go_wp2_with fail
      go_loopw [11] (fun i wq=>∃k:Nat,i= .int .i64 k∧k≤xe.length∧(∀i (hi:i<xe.length),i<k→xe[i].size≤2000)∧Fr Non W2 wq) (fun i _=>xe.length-(intOf i).toNat)
      case atStart=>exact⟨0,rfl,by omega,fun i _ h=>by omega,Zf _⟩
      case round=>
       obtain⟨k,rfl,hk,htl,hfq⟩:=hrel;have HTL:=Zh htl;clear htl;have hbq:=Zb HBX.out hfq (non _);have y5:=(Zc hbq).1 5 _ rfl;by_cases hk1:k<xe.length
       ·obtain⟨b5,o5,A5,c5,rfl,hb5,z0,z1,z2,z3,z4,z5,z6,z7⟩:=at_ex (HR1.out.fr hfq (fun _ _=>non _) (fun _ h=>h)) k hk1;have HFQ:=Zh hfq;clear hfq;have HLG:=Zh (large07_any xe[k] ok A5 c5 wr z7 z5 z6 (fun q hq=>by have:=HOK.out q hq;have:=HFQ.out.size;omega));clear z5 z6 z7 hbq;go_wp2_with fail;refine HLG.out.mono ?_;rintro e w5 ⟨⟨b6,rfl,hb6⟩,hf5⟩;have HB6:=Zh hb6;clear hb6;have HF5:=Zh (HFQ.out.trans hf5);clear hf5;cases b6 with
        |true=>
         go_wp2_with fail;go_ret;exact⟨largeT rfl,HF1.out.trans (HF2.out.trans HF5.out)⟩
        |false=>
         go_wp2_with fail;go_roundw
         case rel=>exact⟨k+1,by go_num,by omega,till_snoc HTL.out fun _=>by simpa using HB6.out,HF5.out⟩
         case measure=>simp[intOf];omega
       ·have HXE:=Zh (all_till (k:=k) (by omega) HTL.out);have y6:=(Zc hbq).1 6 _ rfl;have HFQ:=Zh hfq;obtain⟨wq,rfl⟩:∃wq:World,wq=wr:=⟨_,rfl⟩;have HA:=Zh (HR2.out.fr hfq (fun _ _=>non _) (fun _ h=>h));clear hfq;go_upto_block 10 with fail
        go_cut [3,12] (fun v3 v12 wx=>wx=wq∧∃n:Int,v3= .int .i64 n)
        case first=>
         go_wp2_with fail
         go_loop [3,12] (fun t i=>∃(k:Nat) (n:Int),i= .int .i64 k∧t= .int .i64 n∧k≤xa.length) (fun _ i=>xa.length-(intOf i).toNat)
         case atStart=>exact⟨0,_,rfl,rfl,by omega⟩
         case round=>
          obtain⟨k,n2,rfl,rfl,hk⟩:=hrel;by_cases hk1:k<xa.length
          ·obtain⟨b5,o5,rfl,hb5,z0⟩:=at_str HA.out k hk1;go_wp2_with fail
           go_round
           case rel=>exact⟨k+1,_,by go_num,rfl,by omega⟩
           case measure=>simp[intOf];omega
          ·go_wp2_with fail
           go_meet
           exact⟨rfl,_,rfl⟩
        case rest=>
         obtain⟨rfl,n2,rfl⟩:=hcut;have hbw:=Zb HBX.out HFQ.out (non _);have hfd:=HFQ.out.drew;obtain⟨wd,hwd⟩:∃wd,wd=wc.drew:=⟨_,rfl⟩;rw[←hwd] at hfd;have hbd:=Zb HBX.out hfd (non _);have hzd:W2.heap.size≤wd.heap.size:=hfd.size;obtain⟨A5,c5,w5,hr5,ho5,hf5⟩:=appR_st ok (w.heap.size+1) (.slice (some ⟨g,0,none⟩) R.length c1) wd R (HOW.out.fr hfd (fun k _=>non k) (fun k _=>non k)) (fun k hk=>by have:=HOK.out k hk;omega) B3 d3 xb (HR3.out.fr hfd (fun _ _=>non _) (fun _ h=>h)) hR l3 (by omega);have hgl:=HLT.out g rfl
         have hb5:=Zb hbd hf5 (by rintro⟨_,h2⟩;have h3:g=wp.heap.size:=by simpa[Value.ownBlock] using h2
                                  omega)
         have HFd:=Zh (HF2.out.trans hfd);have HR4d:=HR4.out.fr hfd (fun _ _=>non _) (fun _ h=>h);have HR45:=HR4d.fr hf5 (fun q hq h=>by have:=HOK.out q hq;have:=h.1;omega) (fun _ h=>h);have HF5:=Zh (HFd.out.then hf5 fun k hk h=>by have:=h.1;omega);have hz5:=hf5.size;obtain⟨R1,hR1⟩:∃R1,R1=R++xb:=⟨_,rfl⟩;rw[←hR1] at hr5 ho5;have hR1l:R1.length=R.length+xb.length:=by rw[hR1,List.length_append]
         obtain⟨A6,c6,w6,hr6,ho6,hf6⟩:=appR_st ok (w.heap.size+1) (.slice A5 R1.length c5) w5 R1 ho5 (fun k hk=>by have:=HOK.out k hk;omega) B4 d4 xl HR45 (by omega) l4 (by omega);obtain⟨R2,hR2⟩:∃R2,R2=R1++xl:=⟨_,rfl⟩;rw[←hR2] at hr6 ho6;have hR2l:R2.length=R.length+xb.length+xl.length:=by rw[hR2,List.length_append,hR1l]
         have HR2L:=Zh hR2l;clear hR2l hR1l;have HF6:=Zh (HF5.out.then hf6 fun k hk h=>by have:=h.1;omega);have HO6:=Zh ho6;clear ho6 ho5 hf6 hf5 HR45 HR4d;have HWS2:=Zh (show R2.length+inner (R2.drop (j+1))=R.length+inner (R.drop j) by rw[hR2,hR1];exact HWS.out);have HLI2:=Zh (show St.lights (R2.drop (j+1))→St.lights R0 from fun h=>HLI.out (HWL.out HXE.out (by rw[hR2,hR1] at h;exact h)));have a7:=(Zc hbw).1 7 _ rfl;have a8:=(Zc hbw).1 8 _ rfl;have b7:=(Zc hbd).1 7 _ rfl;have b8:=(Zc hbd).1 8 _ rfl;have e8:=(Zc hb5).1 8 _ rfl;clear hbw hbd hb5 hfd hR2 hR1 hgl;subst hwd;go_wp2_with fail;refine wp_region_any (by kernel_rfl) ?_
         change wpAny _ _ _ _ _ _ _ (World.drew _)
         refine wpAny_take (i:=0) (v:=?_) rfl (by kernel_rfl) (by kernel_rfl) (by kernel_rfl) (fun _ _ _ h=>h) (Or.inl ⟨by rfl,?hy0⟩) ?rst0
         case hy0=>intro w;go_simp;first|done|with_reducible rfl
         case rst0=>
         refine wpAny_take (i:=1) (v:=?_) rfl (by kernel_rfl) (by kernel_rfl) (by kernel_rfl) (fun _ _ _ h=>h) (Or.inl ⟨by rfl,?hy1⟩) ?rst1
         case hy1=>intro w;go_simp;first|done|with_reducible rfl
         case rst1=>
         refine wpAny_take (i:=4) (v:=?_) rfl (by kernel_rfl) (by kernel_rfl) (by kernel_rfl) (fun _ _ _ h=>h) (Or.inl ⟨by rfl,?hy4⟩) ?rst4
         case hy4=>intro w;go_simp;first|done|with_reducible rfl
         case rst4=>
         refine wpAny_ready (rs:=[2,5]) (by kernel_rfl) (by simp) (AllReady.cons rfl (fun K hK=>?br2) (AllReady.cons rfl (fun K hK=>?br5) AllReady.nil))
         case br2=>
          go_simp;refine hK _ _ ?_;clear hK K;refine wpAny_ready (rs:=[3,5]) (by kernel_rfl) (by simp) (AllReady.cons rfl (fun K hK=>?br3) (AllReady.cons rfl (fun K hK=>?brr5) AllReady.nil))
          case br3=>
           refine app_step rfl _ _ rfl rfl rfl hr5 ?_;refine hK _ _ ?_;clear hK K;refine wpAny_ready (rs:=[5]) (by kernel_rfl) (by simp) (AllReady.cons rfl (fun K hK=>?_) AllReady.nil);go_simp;refine hK _ _ ?_;clear hK K;refine wpAny_ready (rs:=[6]) (by kernel_rfl) (by simp) (AllReady.cons rfl (fun K hK=>?_) AllReady.nil);refine app_step rfl _ _ rfl rfl rfl hr6 ?_;refine hK _ _ ?_;clear hK K;refine wpAny_ready (rs:=[7]) (by kernel_rfl) (by simp) (AllReady.cons rfl (fun K hK=>?_) AllReady.nil);go_simp;refine hK _ _ ?_;clear hK K;refine wpAny_done (by kernel_rfl) ?_ _;go_wp2_with fail;go_roundw
           case rel=>exact⟨R2,j+1,_,by go_num,rfl,by have:=HR2L.out;omega,by have:=HR2L.out;omega,by rw[HWS2.out];exact hin,HLI2.out,HO6.out,HF6.out⟩
           case measure=>simp[intOf];omega
          case brr5=>
           go_simp;refine hK _ _ ?_;clear hK K;refine wpAny_ready (rs:=[3]) (by kernel_rfl) (by simp) (AllReady.cons rfl (fun K hK=>?_) AllReady.nil);refine app_step rfl _ _ rfl rfl rfl hr5 ?_;refine hK _ _ ?_;clear hK K;refine wpAny_ready (rs:=[6]) (by kernel_rfl) (by simp) (AllReady.cons rfl (fun K hK=>?_) AllReady.nil);refine app_step rfl _ _ rfl rfl rfl hr6 ?_;refine hK _ _ ?_;clear hK K;refine wpAny_ready (rs:=[7]) (by kernel_rfl) (by simp) (AllReady.cons rfl (fun K hK=>?_) AllReady.nil);go_simp;refine hK _ _ ?_;clear hK K;refine wpAny_done (by kernel_rfl) ?_ _;go_wp2_with fail;go_roundw
           case rel=>exact⟨R2,j+1,_,by go_num,rfl,by have:=HR2L.out;omega,by have:=HR2L.out;omega,by rw[HWS2.out];exact hin,HLI2.out,HO6.out,HF6.out⟩
           case measure=>simp[intOf];omega
         case br5=>
          go_simp;refine hK _ _ ?_;clear hK K;refine wpAny_ready (rs:=[2]) (by kernel_rfl) (by simp) (AllReady.cons rfl (fun K hK=>?_) AllReady.nil);go_simp;refine hK _ _ ?_;clear hK K;refine wpAny_ready (rs:=[3]) (by kernel_rfl) (by simp) (AllReady.cons rfl (fun K hK=>?_) AllReady.nil);refine app_step rfl _ _ rfl rfl rfl hr5 ?_;refine hK _ _ ?_;clear hK K;refine wpAny_ready (rs:=[6]) (by kernel_rfl) (by simp) (AllReady.cons rfl (fun K hK=>?_) AllReady.nil);refine app_step rfl _ _ rfl rfl rfl hr6 ?_;refine hK _ _ ?_;clear hK K;refine wpAny_ready (rs:=[7]) (by kernel_rfl) (by simp) (AllReady.cons rfl (fun K hK=>?_) AllReady.nil);go_simp;refine hK _ _ ?_;clear hK K;refine wpAny_done (by kernel_rfl) ?_ _;go_wp2_with fail;go_roundw
          case rel=>exact⟨R2,j+1,_,by go_num,rfl,by have:=HR2L.out;omega,by have:=HR2L.out;omega,by rw[HWS2.out];exact hin,HLI2.out,HO6.out,HF6.out⟩
          case measure=>simp[intOf];omega
     ·go_upto_block 8 with fail;all_goals try (go_ret;exact⟨largeT rfl,HF1.out.trans HF2.out⟩)
    ·go_wp2_with fail
     go_meet
     have hje:j=R.length:=by omega
     subst hje;rw[List.drop_length] at hin;have hl0:=HLI.out (by rw[List.drop_length];exact trivial);exact⟨_,rfl,by simp[inner] at hin;omega,hl0,hfr⟩
  case rest=>
   obtain⟨n,rfl,hsz,hlt0,hfx⟩:=hcut;have x0:=hfx.cell' ((Zc HB1.out).1 0 _ rfl) (non _);by_cases h30:P.length≤30
   ·go_wp2_with fail;go_ret;exact⟨largeB rfl fun _=>⟨h30,by rw[←(HSZ0.out h30).1];exact hsz,lights_flat P (by rw[←(HSZ0.out h30).2.1];exact hlt0) (HSZ0.out h30).2.2⟩,HF1.out.trans hfx⟩
   ·go_wp2_with fail;go_ret;exact⟨largeT rfl,HF1.out.trans hfx⟩
theorem copyP_own (l:List Fu) (ok:Nat→Prop) (A:Option Addr) (c:Nat) (w:World) (hok:∀k,ok k→k<w.heap.size) (hr:RdRows ok w 5 A 0 (l.map Fu.d)) (hlc:l.length≤c) (hc:l.length*96≤reach):
  Calls Tryz.prog 14 #[.agg #[.slice A l.length c]] w fun r w'=>∃A' c',r= .returned (.agg #[.slice A' l.length c'])∧Fr Non w w'∧l.length≤c'∧Own (w.heap.size+3) 53 5 w' (.slice A' l.length c') (l.map Fu.d):=by
 have hlen:l.length≤140737488355328:=by unfold reach at hc;omega
 have HR:=Zh hr;clear hr;have HK:=Zh hok;clear hok;go_enter Tryz.func14,Tryz.ntmps14;go_wp2_with fail;obtain⟨W1,HW1⟩:∃W1,W1=((w.alloc (.cells #[.slice A l.length c] 24)).alloc (.cells #[.slice none 0 0] 24)).alloc (.cells #[.slice none 0 0] 24):=⟨_,rfl⟩;have hb1:W1.heap[w.heap.size]? =some (.cells #[.slice A l.length c] 24 (0,0)):=by rw[HW1];exact blk_old (blk_old (blk_new _ _ _))
 have hb2:W1.heap[w.heap.size+1]? =some (.cells #[.slice none 0 0] 24 (0,0)):=by rw[HW1];exact blk_old (blk_new' (by simp) _ _)
 have hb3:W1.heap[w.heap.size+2]? =some (.cells #[.slice none 0 0] 24 (0,0)):=by rw[HW1];exact blk_new' (by simp) _ _
 have hf0:Fr Non w W1:=by rw[HW1];exact(((Zf w).alloc _).alloc _).alloc _
 have hW1:w.heap.size+3≤W1.heap.size:=by rw[HW1];simp
 have hW2:W1.heap.size≤w.heap.size+3:=by rw[HW1];simp
 have HB1:=Zh hb1;clear hb1;have HB2:=Zh hb2;clear hb2;have HB3:=Zh hb3;clear hb3;have HF0:=Zh hf0;clear hf0;rw[←HW1];clear HW1
 go_loopw [4] (fun i wr=>∃j:Nat,i= .int .i64 j∧j≤l.length∧Fr (fun k=>k=w.heap.size+2) W1 wr∧∃v,wr.heap[w.heap.size+2]? =some (.cells #[v] 24 (0,0))∧Own (w.heap.size+3) 53 5 wr v ((l.map Fu.d).take j)) (fun i _=>l.length-(intOf i).toNat)
 case atStart=>exact⟨0,rfl,by omega,Fr.refl _ _,_,HB3.out,Own.nil _ _ _ _⟩
 case round=>
  obtain⟨j,rfl,hj,hfr,v,hbv,hown⟩:=hrel;have hz:w.heap.size+3≤wr.heap.size:=Nat.le_trans hW1 hfr.size;obtain⟨A0,c0,rfl,hc0⟩:=hown.slice;have hn:((l.map Fu.d).take j).length=j:=by simp;omega
  rw[hn] at hc0 hown hbv;have HN:=Zh hn;clear hn;have hb1:=Zb HB1.out hfr (by intro h;have h:w.heap.size=w.heap.size+2:=h;omega);have hb2:=Zb HB2.out hfr (by intro h;have h:w.heap.size+1=w.heap.size+2:=h;omega);have a0:=(Zc hb1).1 0 _ rfl;have HBV:=Zh hbv;clear hbv;have hfw:Fr Non w wr:=HF0.out.then hfr (fun k hk h=>by have h:k=w.heap.size+2:=h;omega);by_cases hlt:j<l.length
  ·have hokr:∀k,ok k→k<wr.heap.size:=fun k h=>by have:=HK.out k h;omega
   have HKR:=Zh hokr;clear hokr;obtain⟨b,o1,A1,c1,A2,c2,A3,c3,rfl,hb,e0,e1,e2,e3,e4,⟨p1,q1,r1⟩,⟨p2,q2,r2⟩,⟨p3,q3,r3⟩⟩:=at_fu (HR.out.fr hfw (fun _ _=>non _) (fun _ h=>h)) j hlt;have R1:=Zh r1;clear r1;have R2:=Zh r2;clear r2;have R3:=Zh r3;clear r3;have HO:=Zh hown;clear hown;have HF:=Zh hfr;clear hfr;have HFW:=Zh hfw;clear hfw;have HB1':=Zh hb1;clear hb1;have HB2':=Zh hb2;clear hb2;go_wp2_with (at_builtin;refine appX_pa rfl _ _ rfl ok (wr.heap.size+1) (.slice none 0 0) [] rfl (OwnX.nil _ _ _ _ _) ?okb A1 c1 (l[j].params.map Pa.d) (by rw[List.length_map];rfl) ?src (one_pas _) ?b1 ?b2 ?b3 ?k)
   case okb=>intro k hk;have:=HKR.out k hk;omega
   case src=>exact R1.out.fr ((Zf _).alloc _) (fun _ _=>non _) (fun _ h=>h)
   case b1=>have:=(room24 q1).1;simp;omega
   case b2=>have:=(room24 q1).2;simp;omega
   case b3=>simp
   case k=>
   intro v3 w3 hown3 hf3;obtain⟨A1',c1',rfl,hl1⟩:=hown3.slice;have hn3:(l[j].params.map Pa.d).length=l[j].params.length:=List.length_map _;rw[hn3] at hown3 hl1 ⊢;clear hn3;have hr1:=hown3.rows_pas;have hf3':Fr Non (wr.alloc (.cells #[.string l[j].name,.slice A1 l[j].params.length c1,.slice A2 l[j].body.length c2,.bool l[j].sec,.slice A3 l[j].ret.length c3] 53)) w3:=hf3.mono fun k _ h=>by cases h.2
   have hb3:=Zb (blk_new _ _ _) hf3' (non _);have HR1:=Zh hr1;clear hr1 hown3 hf3;have HF3:=Zh (box_fr hf3');clear hf3';have g1:=(Zc hb3).1 1 _ rfl;have g2:=(Zc hb3).1 2 _ rfl;have gf:=(Zc hb3).2;have HB3:=Zh hb3;clear hb3;go_wp2_with fail;refine(copySts_any (St.sizes l[j].body) l[j].body ok A2 c2 _ (Nat.le_refl _) (fun k hk=>by have:=HKR.out k hk;have:=HF3.out.size;simp;omega) (R2.out.fr (HF3.out.setCell _ _ (.inr (Nat.le_refl _))) (fun _ _=>non _) (fun _ h=>h)) p2 q2).mono ?_;rintro e w5 ⟨A2',c2',rfl,hf5,hl2,hr2⟩;have hb5:=Zb (blk_set HB3.out 1 (.slice A1' l[j].params.length c1')) hf5 (non _);have HR2:=Zh hr2;clear hr2;have HF5:=Zh ((HF3.out.setCell ⟨wr.heap.size,1,none⟩ (.slice A1' l[j].params.length c1') (.inr (Nat.le_refl _))).trans hf5);have GF5:=Zh hf5;clear hf5;clear g1 g2 gf;have g2:=(Zc hb5).1 2 _ rfl;have g4:=(Zc hb5).1 4 _ rfl;have gf:=(Zc hb5).2;have HB5:=Zh hb5;clear hb5;go_wp2_with fail;refine(copyExprs_any l[j].ret ok A3 c3 _ (R3.out.fr (HF5.out.setCell _ _ (.inr (Nat.le_refl _))) (fun _ _=>non _) (fun _ h=>h)) p3 q3).mono ?_;rintro e w7 ⟨A3',c3',rfl,hf7,hl3,hr3⟩;have hb7:=Zb (blk_set HB5.out 2 (.slice A2' l[j].body.length c2')) hf7 (non _);have HR3:=Zh hr3;clear hr3;have HF7:=Zh ((HF5.out.setCell ⟨wr.heap.size,2,none⟩ (.slice A2' l[j].body.length c2') (.inr (Nat.le_refl _))).trans hf7);have GF7:=Zh hf7;clear hf7;clear g2 g4 gf;have g0:=(Zc hb7).1 0 _ rfl;have g1:=(Zc hb7).1 1 _ rfl;have g2:=(Zc hb7).1 2 _ rfl;have g3:=(Zc hb7).1 3 _ rfl;have g4:=(Zc hb7).1 4 _ rfl;have gf:=(Zc hb7).2;have HB7:=Zh hb7;clear hb7;have hbv7:=Zb HBV.out HF7.out (non _);have v0:=(Zc hbv7).1 0 _ rfl;have HBV7:=Zh hbv7;clear hbv7;have S7:=Zh (show Fr (fun k=>k=wr.heap.size) w7 (w7.setCell ⟨wr.heap.size,4,none⟩ (.slice A3' l[j].ret.length c3')) from(Fr.refl _ _).setCell _ _ (.inl rfl));have S5:=Zh ((((Fr.refl (fun k=>k=wr.heap.size) w5).setCell ⟨wr.heap.size,2,none⟩ (.slice A2' l[j].body.length c2') (.inl rfl)).trans GF7.out.non).trans S7.out);have S3:=Zh ((((Fr.refl (fun k=>k=wr.heap.size) w3).setCell ⟨wr.heap.size,1,none⟩ (.slice A1' l[j].params.length c1') (.inl rfl)).trans GF5.out.non).trans S5.out);go_wp2_with (at_builtin;refine app_fu rfl _ _ rfl (w.heap.size+3) (.slice A0 j c0) ((l.map Fu.d).take j) rfl ?o ⟨w7.heap.size,0,none⟩ 1 1 rfl [l[j].d] [.string l[j].name,.slice A1' l[j].params.length c1',.slice A2' l[j].body.length c2',.bool l[j].sec,.slice A3' l[j].ret.length c3'] ?ch rfl ?nc (one_fu _ _ _ _ _ _ _ _ _ _ _) ?b1 ?b2 ?b3 ?k)
   case nc=>exact new_cells' (by simp)
   case o=>exact HO.out.fr ((HF7.out.setCell _ _ (.inr (Nat.le_refl _))).alloc _) (fun _ _=>non _)
   case ch=>
    have hv:=HO.out.lt;have sz3:=HF3.out.size;have sz5:=HF5.out.size;have sz7:=HF7.out.size;have lt3:=blk_lt HB3.out;have lt5:=blk_lt HB5.out;have lt7:=blk_lt HB7.out;have z3:=S3.out.size;have z5:=S5.out.size;rw[setCell_size] at z3 z5;refine chunk_fu l[j] hl1 q1 (HR1.out.fr (S3.out.alloc _) ?_ ?_) hl2 q2 (HR2.out.fr (S5.out.alloc _) ?_ ?_) hl3 q3 (HR3.out.fr (S7.out.alloc _) ?_ ?_);all_goals (intro k hk;have h1:=hk.1;have h2:=hk.2;try simp at h1;try simp at h2)
    all_goals first
     |(intro h;have h:k=wr.heap.size:=h;omega)
     |(refine⟨by omega,by simp;omega,fun e=>?_⟩;have:=(hv k e).2;omega)
   case b1=>rw[HN.out];exact(room96 (by omega)).1
   case b2=>rw[HN.out];exact(room96 (by omega)).2
   case b3=>have:=HF7.out.size;simp;omega
   case k=>
    intro v' w' hown' hfr';obtain⟨L,hL⟩:∃L,L=(l.map Fu.d).take j++[l[j].d]:=⟨_,rfl⟩;have hLn:L.length=j+1:=by rw[hL];simp;omega
    rw[←hL] at hown';obtain⟨A9,c9,rfl,hc9⟩:=hown'.slice;rw[hLn] at hown' ⊢;have HL:=Zh hL;clear hL hLn hc9;have hbv':=Zb (blk_old (o':=.cells #[.string l[j].name,.slice A1' l[j].params.length c1',.slice A2' l[j].body.length c2',.bool l[j].sec,.slice A3' l[j].ret.length c3'] 53) (Zb HBV7.out S7.out (by intro h;have h:w.heap.size+2=wr.heap.size:=h;omega))) hfr' (by intro h;have:=h.1;omega);have HO':=Zh hown';clear hown';have HF':=Zh hfr';clear hfr';have v0':=(Zc hbv').1 0 _ rfl;have vf':=(Zc hbv').2;have HBV':=Zh hbv';clear hbv';go_wp2_with fail;go_roundw
    case rel=>
     refine⟨j+1,by go_num,by omega,?_,_,blk_set HBV'.out 0 _,?_⟩
     ·refine Fr.setCell ?_ _ _ (.inl rfl);exact(HF.out.trans ((HF7.out.setCell _ _ (.inr (Nat.le_refl _))).alloc _).non).then HF'.out (fun k hk ht=>by have:=ht.1;omega)
     ·rw[show(l.map Fu.d).take (j+1)=L by rw[HL.out,take_snoc _ _ (by simpa using hlt),List.getElem_map]];exact HO'.out.fr (S:=fun k=>k=w.heap.size+2) ((Fr.refl _ _).setCell _ _ (.inl rfl)) (fun k hk h=>by have h:k=w.heap.size+2:=h;omega)
    case measure=>simp[intOf];omega
  ·have HO:=Zh hown;clear hown;have HF:=Zh hfr;clear hfr;have HFW:=Zh hfw;clear hfw;have v0:=(Zc HBV.out).1 0 _ rfl;have r0:=(Zc hb2).1 0 _ rfl;have rf:=(Zc hb2).2;clear hb1 hb2;go_wp2_with fail;refine bodyPost_ret (v:=.agg #[.slice A0 j c0]) ?_ rfl ?_
   ·simp[results,Tryz.results14,go_sem,r0]
   ·obtain rfl:j=l.length:=by omega
    refine⟨A0,c0,rfl,HFW.out.setCell _ _ (.inr (by simp)),hc0,?_⟩;have h3:=HO.out;rw[List.take_of_length_le (by simp)] at h3;exact h3.fr (S:=fun k=>k=w.heap.size+1) ((Fr.refl _ _).setCell _ _ (.inl rfl)) (fun k hk h=>by have h:k=w.heap.size+1:=h;omega)
def St.wth (s:St) (ex:List Ex) (body els:List St):St:=.mk s.kind s.name s.frm s.sec s.mt ex s.args body els
theorem eds_app (c:EdC):∀(l r:List St) (e:EdS),St.eds c (l++r) e=((St.eds c l e).1++(St.eds c r (St.eds c l e).2).1,(St.eds c r (St.eds c l e).2).2)
 |[],r,e=>by rw[List.nil_append];conv=>rhs;rw[St.eds]
             rfl
 |s::l,r,e=>by rw[List.cons_append,St.eds,eds_app c l r,St.eds];simp only[List.append_assoc]
theorem eds_snoc (c:EdC) (l:List St) (e:EdS) (j:Nat) (h:j<l.length):St.eds c (l.take (j+1)) e=((St.eds c (l.take j) e).1++(l[j].ed c (St.eds c (l.take j) e).2).1,(l[j].ed c (St.eds c (l.take j) e).2).2):=by
 rw[List.take_succ_eq_append_getElem h,eds_app]
 conv=>lhs;rw[St.eds,St.eds]
 simp only[List.append_nil]
theorem ed_no (c:EdC) (s:St) (e:EdS) (h:e.next.here c s.kind=false):
  s.ed c e=([s.wth s.ex (St.eds c s.body (e.next.pass c s.kind)).1 (St.eds c s.els (St.eds c s.body (e.next.pass c s.kind)).2).1],(St.eds c s.els (St.eds c s.body (e.next.pass c s.kind)).2).2):=by
 cases s with
 |mk k nm fr sec mt ex args body els=>
  have h:e.next.here c k=false:=h;rw[St.ed];simp only[h,Bool.false_and,Bool.false_eq_true,if_false];rfl
theorem ed_ex (c:EdC) (s:St) (e:EdS) (h:e.next.here c s.kind=true) (hx:c.extra=true) (hi:c.inside=false):
  s.ed c e=([s.wth (s.ex++[num0]) (St.eds c s.body ((e.next.pass c s.kind).did s.mt)).1 (St.eds c s.els (St.eds c s.body ((e.next.pass c s.kind).did s.mt)).2).1],(St.eds c s.els (St.eds c s.body ((e.next.pass c s.kind).did s.mt)).2).2):=by
 cases s with
 |mk k nm fr sec mt ex args body els=>
  have h:e.next.here c k=true:=h;rw[St.ed];simp only[h,hx,hi,Bool.true_and,Bool.not_true,Bool.not_false,Bool.and_false,Bool.and_true,Bool.false_eq_true,if_false,if_true];rfl
theorem ed_in (c:EdC) (s:St) (e:EdS) (h:e.next.here c s.kind=true) (hx:c.extra=false) (hi:c.inside=true):
  s.ed c e=([s.wth s.ex ((St.eds c s.body (e.next.pass c s.kind)).1++[c.of s.frm]) (St.eds c s.els ((St.eds c s.body (e.next.pass c s.kind)).2.next.did s.mt)).1],(St.eds c s.els ((St.eds c s.body (e.next.pass c s.kind)).2.next.did s.mt)).2):=by
 cases s with
 |mk k nm fr sec mt ex args body els=>
  have h:e.next.here c k=true:=h;rw[St.ed];simp only[h,hx,hi,Bool.true_and,Bool.not_true,Bool.not_false,Bool.and_false,Bool.and_true,Bool.false_and,Bool.false_eq_true,if_false,if_true];rfl
theorem ed_bh (c:EdC) (s:St) (e:EdS) (h:e.next.here c s.kind=true) (hx:c.extra=false) (hi:c.inside=false):
  s.ed c e=([s.wth s.ex (St.eds c s.body (e.next.pass c s.kind)).1 (St.eds c s.els (St.eds c s.body (e.next.pass c s.kind)).2).1,c.of s.frm],(St.eds c s.els (St.eds c s.body (e.next.pass c s.kind)).2).2.next.did s.mt):=by
 cases s with
 |mk k nm fr sec mt ex args body els=>
  have h:e.next.here c k=true:=h;rw[St.ed];simp only[h,hx,hi,Bool.true_and,Bool.not_true,Bool.not_false,Bool.and_false,Bool.and_true,Bool.false_eq_true,if_false,if_true];rfl
structure EdR (e e':EdS) (n:Nat):Prop where
 n0:e.n≤e'.n
 n1:e'.n≤e.n+2*n
 k0:e.K-n≤e'.K
 k1:e'.K≤e.K
theorem EdR.trans {a b c:EdS} {m n:Nat} (h:EdR a b m) (k:EdR b c n):EdR a c (m+n):=⟨by have:=h.n0;have:=k.n0;omega,by have:=h.n1;have:=k.n1;omega,by have:=h.k0;have:=k.k0;omega,by have:=h.k1;have:=k.k1;omega⟩
theorem edr_next (e:EdS) (c:EdC) (k:UInt8):(e.next.pass c k).n=e.n+1∧e.K-1≤(e.next.pass c k).K∧(e.next.pass c k).K≤e.K:=by
 unfold EdS.pass;split
 ·exact⟨rfl,Int.le_refl _,by show e.K-1≤e.K;omega⟩
 ·exact⟨rfl,by show e.K-1≤e.K;omega,Int.le_refl _⟩
mutual
theorem ed_bd (c:EdC) (h2:(c.inside&&c.extra)=false):∀(s:St) (e:EdS),EdR e (s.ed c e).2 s.size∧(s.ed c e).1.length≤2∧1≤(s.ed c e).1.length
 | .mk k nm fr sec mt ex args body els,e=>by
   have hp:=edr_next e c k;have hsz:(St.mk k nm fr sec mt ex args body els).size=1+St.sizes body+St.sizes els:=by simp only[St.size]
   rw[hsz];cases hh:e.next.here c k
   ·rw[ed_no c (.mk k nm fr sec mt ex args body els) e hh];have b1:=eds_bd c h2 body (e.next.pass c k);have b2:=eds_bd c h2 els (St.eds c body (e.next.pass c k)).2;have b:=b1.trans b2;refine⟨⟨?_,?_,?_,?_⟩,by simp,by simp⟩
    ·have:=b.n0;show e.n≤(St.eds c els (St.eds c body (e.next.pass c k)).2).2.n;omega
    ·have:=b.n1;show(St.eds c els (St.eds c body (e.next.pass c k)).2).2.n≤_;omega
    ·have:=b.k0;show _≤(St.eds c els (St.eds c body (e.next.pass c k)).2).2.K;omega
    ·have:=b.k1;show(St.eds c els (St.eds c body (e.next.pass c k)).2).2.K≤_;omega
   ·cases hx:c.extra<;>cases hi:c.inside
    ·rw[ed_bh c (.mk k nm fr sec mt ex args body els) e hh hx hi];have b1:=eds_bd c h2 body (e.next.pass c k);have b2:=eds_bd c h2 els (St.eds c body (e.next.pass c k)).2;have b:=b1.trans b2;refine⟨⟨?_,?_,?_,?_⟩,by simp,by simp⟩
     ·have:=b.n0;show e.n≤(St.eds c els (St.eds c body (e.next.pass c k)).2).2.n+1;omega
     ·have:=b.n1;show(St.eds c els (St.eds c body (e.next.pass c k)).2).2.n+1≤_;omega
     ·have:=b.k0;show _≤(St.eds c els (St.eds c body (e.next.pass c k)).2).2.K;omega
     ·have:=b.k1;show(St.eds c els (St.eds c body (e.next.pass c k)).2).2.K≤_;omega
    ·rw[ed_in c (.mk k nm fr sec mt ex args body els) e hh hx hi];have b1:=eds_bd c h2 body (e.next.pass c k);have b2:=eds_bd c h2 els ((St.eds c body (e.next.pass c k)).2.next.did mt);have q1:((St.eds c body (e.next.pass c k)).2.next.did mt).n=(St.eds c body (e.next.pass c k)).2.n+1:=rfl;have q2:((St.eds c body (e.next.pass c k)).2.next.did mt).K=(St.eds c body (e.next.pass c k)).2.K:=rfl;refine⟨⟨?_,?_,?_,?_⟩,by simp,by simp⟩
     ·have:=b1.n0;have:=b2.n0;show e.n≤(St.eds c els ((St.eds c body (e.next.pass c k)).2.next.did mt)).2.n;omega
     ·have:=b1.n1;have:=b2.n1;show(St.eds c els ((St.eds c body (e.next.pass c k)).2.next.did mt)).2.n≤_;omega
     ·have:=b1.k0;have:=b2.k0;show _≤(St.eds c els ((St.eds c body (e.next.pass c k)).2.next.did mt)).2.K;omega
     ·have:=b1.k1;have:=b2.k1;show(St.eds c els ((St.eds c body (e.next.pass c k)).2.next.did mt)).2.K≤_;omega
    ·rw[ed_ex c (.mk k nm fr sec mt ex args body els) e hh hx hi];have b1:=eds_bd c h2 body ((e.next.pass c k).did mt);have b2:=eds_bd c h2 els (St.eds c body ((e.next.pass c k).did mt)).2;have b:=b1.trans b2;have q1:((e.next.pass c k).did mt).n=(e.next.pass c k).n:=rfl;have q2:((e.next.pass c k).did mt).K=(e.next.pass c k).K:=rfl;refine⟨⟨?_,?_,?_,?_⟩,by simp,by simp⟩
     ·have:=b.n0;show e.n≤(St.eds c els (St.eds c body ((e.next.pass c k).did mt)).2).2.n;omega
     ·have:=b.n1;show(St.eds c els (St.eds c body ((e.next.pass c k).did mt)).2).2.n≤_;omega
     ·have:=b.k0;show _≤(St.eds c els (St.eds c body ((e.next.pass c k).did mt)).2).2.K;omega
     ·have:=b.k1;show(St.eds c els (St.eds c body ((e.next.pass c k).did mt)).2).2.K≤_;omega
    ·rw[hx,hi] at h2;cases h2
theorem eds_bd (c:EdC) (h2:(c.inside&&c.extra)=false):∀(l:List St) (e:EdS),EdR e (St.eds c l e).2 (St.sizes l)
 |[],e=>by rw[St.eds];exact⟨Int.le_refl _,by simp[St.sizes],by simp[St.sizes],Int.le_refl _⟩
 |s::l,e=>by
  rw[St.eds];exact(ed_bd c h2 s e).1.trans (eds_bd c h2 l _)
end
theorem eds_length (c:EdC) (h2:(c.inside&&c.extra)=false):∀(l:List St) (e:EdS),l.length≤(St.eds c l e).1.length∧(St.eds c l e).1.length≤2*l.length
 |[],e=>by rw[St.eds];simp
 |s::l,e=>by
  rw[St.eds];have h:=(ed_bd c h2 s e).2;have hl:=eds_length c h2 l (s.ed c e).2;simp only[List.length_append,List.length_cons];omega
theorem len_sizes:∀l:List St,l.length≤St.sizes l
 |[]=>by simp[St.sizes]
 |s::l=>by
  have:=len_sizes l;have hs:1≤s.size:=by cases s;simp[St.size];omega
  simp only[List.length_cons,St.sizes];omega
def okM (ok:Nat→Prop) (base:Nat) (w:World) (v:Value) (k:Nat):Prop:=ok k∨okOwn base w v k
def OwnM (ok:Nat→Prop) (base:Nat) (e:TypeId) (sz:Nat) (w:World) (v:Value) (l:List (List D)):Prop:=
 ∃xs,w.ownsRow base e sz v l.length xs∧Chunks (okM ok base w v) w sz l xs
theorem OwnM.nil (ok:Nat→Prop) (base:Nat) (e:TypeId) (sz:Nat) (w:World):OwnM ok base e sz w (.slice none 0 0) []:=⟨[],World.ownsRow_nil _ _ _ _,rfl⟩
theorem OwnM.fr {ok:Nat→Prop} {base:Nat} {e:TypeId} {sz:Nat} {w w':World} {v:Value} {l:List (List D)} {S:Nat→Prop} (h:OwnM ok base e sz w v l) (hf:Fr S w w') (hs:∀k,base≤k→¬S k) (hk:∀k,ok k→¬S k):OwnM ok base e sz w' v l:=by
 obtain⟨xs,h1,h2⟩:=h;exact⟨xs,ownsRow_fr h1 hf hs,h2.mono (fun b o u hb hc=>hf.cell' hc (by rcases hb with hb|hb;exact hk b hb;exact hs b hb.1)) fun b hb=>hb.imp id fun hb=>⟨hb.1,Nat.lt_of_lt_of_le hb.2.1 hf.size,hb.2.2⟩⟩
theorem OwnM.slice {ok:Nat→Prop} {base:Nat} {e:TypeId} {sz:Nat} {w:World} {v:Value} {l:List (List D)} (h:OwnM ok base e sz w v l):∃A c,v= .slice A l.length c∧l.length≤c:=by
 obtain⟨xs,⟨_,h2⟩,_⟩:=h;rcases h2 with⟨rfl,h2⟩|⟨g,cap,cur,hv,hb,hh,h3,_⟩
 ·exact⟨none,0,by rw[h2],by omega⟩
 ·exact⟨_,cap,hv,h3⟩
theorem OwnM.lt {ok:Nat→Prop} {base:Nat} {e:TypeId} {sz:Nat} {w:World} {v:Value} {l:List (List D)} (h:OwnM ok base e sz w v l):∀k,v.ownBlock=some k→base≤k∧k<w.heap.size:=by
 obtain⟨xs,h,_⟩:=h;exact h.lt
theorem OwnM.rows {ok:Nat→Prop} {base:Nat} {e:TypeId} {sz:Nat} {w:World} {A:Option Addr} {c n:Nat} {l:List (List D)} (h:OwnM ok base e sz w (.slice A n c) l):RdRows (fun k=>ok k∨base≤k∧k<w.heap.size) w sz A 0 l:=by
 obtain⟨xs,h1,h2⟩:=h;have h1':=h1;obtain⟨_,h3⟩:=h1;rcases h3 with⟨hv,h3⟩|⟨g,cap,cur,hv,hb,hh,_⟩
 ·obtain rfl:l=[]:=List.eq_nil_of_length_eq_zero h3;trivial
 ·obtain⟨rfl,rfl,rfl⟩:A=some ⟨g,0,none⟩∧n=l.length∧c=cap:=by cases hv;exact⟨rfl,rfl,rfl⟩
  refine RdRows.of_chunks (.inr ⟨hb,(Array.getElem?_eq_some_iff.1 hh).1⟩) (h2.mono (fun _ _ _ _ h=>h) fun b hb=>hb.imp id fun hb=>⟨hb.1,hb.2.1⟩) fun j u hu=>?_;have:=h1'.cells (g:=g) rfl j u hu;simpa[Addr.add_lit] using this
theorem ownM_append {P:Program} {ops:Array Oper} {rest:List Oper} {o:Oper} {a:Act} {Q:Exit→Act→World→Prop} {w:World} (hgd:o.guard=none) (s x:Operand) (t:TypeId)
  (ho:o.op= .call {callee:=.builtin .append,args:=#[s,x],argTypes:=#[t,t]})
  (ok:Nat→Prop) (base:Nat) (e:TypeId) (i:TypeInfo) (z:Value) (size bytes:Nat) (ht:P.underlying t=some (.slice e)) (hi:P.info? e=some i) (hz:i.zero=some z)
  (hsize:i.size=size) (hby:i.bytes=bytes) (hzs:z.cells.size=size) (hsz:0<size)
  (v:Value) (l:List (List D)) (hs:a.eval s=v) (hown:OwnM ok base e size w v l) (hokb:∀k,ok k→k<base)
  (ad:Addr) (m c:Nat) (hx:a.eval x= .slice (some ad) m c) (l':List (List D)) (us:List Value) (hch:Chunks (okM ok base w v) w size l' us) (hm:l'.length=m) (hnews:∀j u,us[j]? =some u→w.cell? (ad.add j)=some u) (h1:∀u∈us,u.oneCell'=true)
  (h63:l.length+m≤maxLen) (hbytes:((l.length+m)+(l.length+m) / 4+192)*bytes≤281474976710656) (hbase:base≤w.heap.size)
  (h:∀v' w',OwnM ok base e size w' v' (l++l')→Fr (fun k=>base≤k∧v.ownBlock=some k) w w'→wpList P ops Q rest (a.put o.dst v') w'):wpList P ops Q (o::rest) a w:=by
 obtain⟨xs,hrow,hcs⟩:=hown;obtain⟨v',w',hr,hrow',hg,hwh⟩:=run_append_where (P:=P) w base t o.type e i z size bytes ht hi hz hsize hby hzs hsz v l.length xs hrow ad m c us (by rw[hch.length,hm]) hnews h1 h63 hbytes hbase;have hfr:Fr (fun k=>base≤k∧v.ownBlock=some k) w w':=⟨hg.os,hg.tape,hg.output,hg.size,fun k hk hn=>hg.block k hk fun e=>hn ⟨(hrow.lt k e.symm).1,e.symm⟩⟩;have key:∀b o u,okM ok base w v b→w.cell? ⟨b,o,none⟩=some u→w'.cell? ⟨b,o,none⟩=some u:=fun b o u hb hc=>hfr.cell' hc fun hx=>by
  rcases hb with hb|hb
  ·have:=hokb b hb;have hb2:base≤b:=hx.1;omega
  ·exact hb.2.2 hx.2
 have hnew:∀b,okM ok base w v b→okM ok base w' v' b:=fun b hb=>hb.imp id fun hb=>⟨hb.1,Nat.lt_of_lt_of_le hb.2.1 hg.size,fun hv=>by
  rcases hwh b hv with h|h
  ·exact hb.2.2 h
  ·have:=hb.2.1;omega⟩
 have hres:=h v' w' ⟨xs++us,by rw[List.length_append,hm];exact hrow',Chunks.append (hch.mono key hnew) (hcs.mono key hnew)⟩ hfr;refine wpList_plain hgd fun K hK=>?_;unfold Oper.wp execOp;simp only[ho,resolve,invoke,builtin,Sem.run_bind,Sem.run_pure,Result.andThen_ok,List.map_toArray,List.map_cons,List.map_nil,hs,hx,hr];exact hK _ _ hres
def AppM (t e:TypeId) (size bytes:Nat):Prop:=
 ∀{ops:Array Oper} {rest:List Oper} {o:Oper} {a:Act} {Q:Exit→Act→World→Prop} {w:World} (_:o.guard=none) (s x:Operand)
  (_:o.op= .call {callee:=.builtin .append,args:=#[s,x],argTypes:=#[t,t]})
  (ok:Nat→Prop) (base:Nat) (v:Value) (l:List (List D)) (_:a.eval s=v) (_:OwnM ok base e size w v l) (_:∀k,ok k→k<base)
  (ad:Addr) (m c:Nat) (_:a.eval x= .slice (some ad) m c) (l':List (List D)) (us:List Value) (_:Chunks (okM ok base w v) w size l' us) (_:l'.length=m) (_:∀j u,us[j]? =some u→w.cell? (ad.add j)=some u) (_:∀u∈us,u.oneCell'=true)
  (_:l.length+m≤maxLen) (_:((l.length+m)+(l.length+m) / 4+192)*bytes≤281474976710656) (_:base≤w.heap.size)
  (_:∀v' w',OwnM ok base e size w' v' (l++l')→Fr (fun k=>base≤k∧v.ownBlock=some k) w w'→wpList Tryz.prog ops Q rest (a.put o.dst v') w'),wpList Tryz.prog ops Q (o::rest) a w
theorem appM_of {t e:TypeId} {z:Value} {size bytes:Nat} (ht:Tryz.prog.underlying t=some (.slice e)) (hi:(Tryz.prog.info? e).map (fun i=>(i.zero,i.size,i.bytes))=some (some z,size,bytes)) (hzs:z.cells.size=size) (hsz:0<size):AppM t e size bytes:=by
 obtain⟨i0,h0,h1,h2,h3⟩:=info_parts hi;intro ops rest o a Q w hgd s x ho ok base v l hs hown hokb ad m c hx l' us hch hm hnews h1' h63 hbytes hbase h;exact ownM_append hgd s x t ho ok base e i0 z size bytes ht h0 h1 h2 h3 hzs hsz v l hs hown hokb ad m c hx l' us hch hm hnews h1' h63 hbytes hbase h
theorem appM_st:AppM 40 42 9 144:=appM_of (z:=stZ) (by kernel_rfl) (by kernel_rfl) rfl (by decide)
theorem appM_ex:AppM 38 48 5 64:=appM_of (z:=exZ) (by kernel_rfl) (by kernel_rfl) rfl (by decide)
end Go.Proofs.YtpkpgmnbheenbaaGreatDoor
