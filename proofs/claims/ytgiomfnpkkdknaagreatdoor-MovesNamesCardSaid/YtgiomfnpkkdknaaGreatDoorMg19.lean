/- Contracts and laws, Mg19 -/
import Derived.Test.YtgiomfnpkkdknaaGreatDoorMg01
import Derived.Test.YtgiomfnpkkdknaaGreatDoorMg02
import Derived.Test.YtgiomfnpkkdknaaGreatDoorMg04
import Derived.Test.YtgiomfnpkkdknaaGreatDoorMg05
import Derived.Test.YtgiomfnpkkdknaaGreatDoorMg16
import Derived.Test.YtgiomfnpkkdknaaGreatDoorMg18
import Derived.Deep.DeepCutAuto
import Derived.IntWalk
import Derived.Deep.CutBlock
import Derived.Shelf.Strconv.Itoa3
import Derived.Test.YtgiomfnpkkdknaaGreatDoorProg
import Derived.Lib.ItoaMem
import Derived.RegionTactic
import Derived.WalkSpells
namespace Go.Proofs.YtgiomfnpkkdknaaGreatDoor
open Go.RowKit
set_option linter.unusedVariables false
set_option linter.unusedSimpArgs false
set_option maxHeartbeats 8000000
set_option maxRecDepth 100000
theorem Chunks.at {ok:Nat→Prop} {w:World} {sz:Nat}:∀{l:List (List D)} {xs:List Value} (k:Nat) (hk:k<l.length),Chunks ok w sz l xs→∃us,RdL ok w l[k] us∧us.length=sz∧∀i u,us[i]? =some u→xs[k*sz+i]? =some u
 |ds::l,_,0,_,⟨us,r,rfl,h1,h2,h3,h4⟩=>⟨us,h3,h1,fun i u h=>by
   rw[Nat.zero_mul,Nat.zero_add,List.getElem?_append_left (by have:=(List.getElem?_eq_some_iff.1 h).1;exact this)];exact h⟩
 |ds::l,_,k+1,hk,⟨us,r,rfl,h1,h2,h3,h4⟩=>by
  obtain⟨vs,g1,g2,g3⟩:=Chunks.at k (by simpa using hk) h4;refine⟨vs,by simpa using g1,g2,fun i u h=>?_⟩;rw[List.getElem?_append_right (by rw[h1,Nat.succ_mul];omega),h1];rw[show(k+1)*sz+i-sz=k*sz+i by rw[Nat.succ_mul];omega];exact g3 i u h
theorem OwnX.at {ok:Nat→Prop} {base:Nat} {e:TypeId} {sz:Nat} {w:World} {A:Option Addr} {c n:Nat} {l:List (List D)} (h:OwnX ok base e sz w (.slice A n c) l) (k:Nat) (hk:k<l.length):
  ∃g us,A=some ⟨g,0,none⟩∧base≤g∧RdL ok w l[k] us∧∀i u,us[i]? =some u→w.cell? ⟨g,k*sz+i,none⟩=some u:=by
 obtain⟨xs,h1,h2⟩:=h;obtain⟨us,g1,g2,g3⟩:=Chunks.at k hk h2;have h1':=h1;obtain⟨_,h3⟩:=h1;rcases h3 with⟨hv,h3⟩|⟨g,cap,cur,hv,hb,hh,_⟩
 ·omega
 ·obtain⟨rfl,rfl,rfl⟩:A=some ⟨g,0,none⟩∧n=l.length∧c=cap:=by cases hv;exact⟨rfl,rfl,rfl⟩
  refine⟨g,us,rfl,hb,g1,fun i u hu=>?_⟩;have:=h1'.cells (g:=g) rfl (k*sz+i) u (g3 i u hu);simpa[Addr.add_lit] using this
theorem own_new {ok:Nat→Prop} {base:Nat} {e:TypeId} {sz g:Nat} {w:World} {cur:Array Value} {ds:List D} (hb:base≤g) (hh:w.heap[g]? =some (.cells cur e (0,0))) (hs:cur.size=sz) (hd:ds.length=sz) (hr:RdL ok w ds cur.toList):
  OwnX ok base e sz w (.slice (some ⟨g,0,none⟩) 1 1) [ds]:=
 ⟨cur.toList,⟨by simp[hs],.inr ⟨g,1,cur,rfl,hb,hh,Nat.le_refl _,by decide,by simp[hs],by rw[List.length_singleton,Nat.one_mul];exact List.take_of_length_le (by simp[hs])⟩⟩,cur.toList,[],by simp,by simp[hs],hd,hr,rfl⟩
theorem Ex.ds_append (l r:List Ex):Ex.ds (l++r)=Ex.ds l++Ex.ds r:=by rw[Ex.ds_eq,Ex.ds_eq,Ex.ds_eq,List.map_append]
def SizeB (x:Ex) (e:Ending):Prop:=∃b,e= .returned (.bool b)∧(b=false→x.size≤2000)
theorem sizeT {x:Ex} {v:Value} (h:v= .bool true):SizeB x (.returned v):=⟨true,by rw[h],fun h=>by cases h⟩
theorem sizeF {x:Ex} {v:Value} (h:v= .bool false) (hs:x.size≤2000):SizeB x (.returned v):=⟨false,by rw[h],fun _=>hs⟩
def innerE (l:List Ex):Nat:=(l.map fun e=>Ex.sizes e.kids).sum
theorem innerE_append (l r:List Ex):innerE (l++r)=innerE l+innerE r:=by simp[innerE]
theorem ex_size_eq (e:Ex):e.size=1+Ex.sizes e.kids:=by cases e;rfl
theorem innerE_all (l:List Ex):l.length+innerE l=Ex.sizes l:=by
 induction l with
 |nil=>rfl
 |cons x l ih=>simp only[innerE,List.map_cons,List.sum_cons,List.length_cons,Ex.sizes,ex_size_eq] at ih ⊢;omega
theorem innerE_drop (l:List Ex) (j:Nat) (h:j<l.length):innerE (l.drop j)=Ex.sizes l[j].kids+innerE (l.drop (j+1)):=by
 rw[List.drop_eq_getElem_cons h,innerE,List.map_cons,List.sum_cons];rfl
theorem workE_step (l:List Ex) (j:Nat) (h:j<l.length):(l++l[j].kids).length+innerE ((l++l[j].kids).drop (j+1))=l.length+innerE (l.drop j):=by
 rw[innerE_drop l j h,List.drop_append_of_le_length (by omega),innerE_append,List.length_append,←innerE_all l[j].kids];omega
theorem large07_any (e:Ex) (ok:Nat→Prop) (A:Option Addr) (c:Nat) (w:World) (hr:RdRows ok w 5 A 0 (Ex.ds e.kids)) (h1:e.kids.length≤c) (h2:e.kids.length*64≤reach) (hok:∀q,ok q→q<w.heap.size):
  Calls Tryz.prog 26 #[exV e.kind e.num e.name e.op A e.kids.length c] w fun r w'=>SizeB e r∧Fr Non w w':=by
 have HOK:=Zh hok;clear hok;obtain⟨W1,HW1⟩:∃W1,W1=(w.alloc (.cells #[vu8 e.kind,vu64 e.num,.string e.name,vu8 e.op,.slice A e.kids.length c] 44)).alloc (.cells #[vu8 e.kind,vu64 e.num,.string e.name,vu8 e.op,.slice A e.kids.length c] 44):=⟨_,rfl⟩;have hf1:Fr Non w W1:=by rw[HW1];exact((Zf w).alloc _).alloc _
 have hb1:W1.heap[w.heap.size+1]? =some (.cells #[vu8 e.kind,vu64 e.num,.string e.name,vu8 e.op,.slice A e.kids.length c] 44 (0,0)):=by rw[HW1];exact blk_new' (by simp) _ _
 have HOW:=Zh (own_new (ok:=ok) (base:=w.heap.size) (ds:=e.d) (sz:=5) (by omega) hb1 rfl (by cases e;rfl) (by
  have hr1:=hr.fr hf1 (fun _ _=>non _) (fun _ h=>h);cases e with
  |mk k n s o l=>
   have hlen:(Ex.ds l).length=l.length:=by rw[Ex.ds_eq,List.length_map]
   refine⟨_,_,rfl,rfl,_,_,rfl,rfl,_,_,rfl,rfl,_,_,rfl,rfl,_,_,rfl,⟨A,c,?_,?_,?_,hr1⟩,rfl⟩
   ·show Value.slice A l.length c=_;rw[hlen]
   ·rw[hlen];exact h1
   ·rw[hlen];exact h2))
 have HF1:=Zh hf1;clear hf1 hb1 hr h1 h2;go_enter Tryz.func26,Tryz.ntmps26;go_upto_region 2 with fail;rw[show((w.alloc (.cells #[vu8 e.kind,vu64 e.num,.string e.name,vu8 e.op,.slice A e.kids.length c] 44)).alloc (.cells #[vu8 e.kind,vu64 e.num,.string e.name,vu8 e.op,.slice A e.kids.length c] 44))=W1 from HW1.symm];clear HW1;go_wp2_with fail
 go_loopw [3,4,5] (fun v t i wr=>∃(l:List Ex) (j:Nat) (n:Int),i= .int .i64 j∧t= .int .i64 n∧j≤l.length∧l.length≤2000∧l.length+innerE (l.drop j)=e.size∧OwnX ok w.heap.size 44 5 wr v (Ex.ds l)∧Fr Non w wr) (fun _ _ i _=>2001-(intOf i).toNat)
 case atStart=>exact⟨[e],0,0,rfl,rfl,by simp,by simp,by simp[innerE,ex_size_eq],HOW.out,HF1.out⟩
 case round=>
  obtain⟨l,j,n,rfl,rfl,hj,hl2,hin,how,hfr⟩:=hrel;have HIN:=Zh hin;clear hin;obtain⟨A1,c1,hv,hc1⟩:=how.slice;rw[Ex.ds_length] at hv hc1;subst hv;have HOX:=Zh how;by_cases hlt:j<l.length
  ·obtain⟨g,us,rfl,hg,hrd,hce⟩:=how.at j (by rw[Ex.ds_length];exact hlt);have hd:(Ex.ds l)[j]'(by rw[Ex.ds_length];exact hlt)=l[j].d:=by simp[Ex.ds_eq]
   rw[hd] at hrd;have HX:=Zh (take_snoc l j hlt);have HWS:=Zh (workE_step l j hlt);generalize l[j]=x at*;obtain⟨xk,xn,xs,xo,xl⟩:=x;obtain⟨_,_,rfl,rfl,_,_,rfl,rfl,_,_,rfl,rfl,_,_,rfl,rfl,_,_,rfl,⟨A2,c2,rfl,hk1,hk2,hk3⟩,rfl⟩:=hrd;have e2:=hce 2 _ rfl;have e4:=hce 4 _ rfl;rw[Ex.ds_length] at e4 hk1 hk2;have hl9:xl.length≤140737488355328:=by unfold reach at hk2;omega
   clear hce how;have HK3:=Zh hk3;clear hk3;have HF:=Zh hfr;clear hfr;go_upto_region 9 with fail;all_goals try (go_ret;exact⟨sizeT rfl,HF.out⟩)
   ·rename_i hA hB;have hsum:l.length+xl.length≤2000:=by omega
    have HSUM:=Zh hsum;clear hsum hA hB;go_wp2_with (at_builtin;(refine appX_ex rfl _ _ rfl ok w.heap.size (.slice (some ⟨g,0,none⟩) l.length c1) (Ex.ds l) rfl HOX.out HOK.out A2 c2 (Ex.ds xl) (by rw[Ex.ds_length];rfl) HK3.out (one_exs _) ?b1 ?b2 ?b3 ?k))
    case b1=>rw[Ex.ds_length,Ex.ds_length];have:=HSUM.out;unfold maxLen;omega
    case b2=>rw[Ex.ds_length,Ex.ds_length];have:=HSUM.out;omega
    case b3=>exact HF.out.size
    case k=>
    intro v3 w3 hown3 hf3;rw[←Ex.ds_append] at hown3;have HF3:=Zh (HF.out.then hf3 fun k hk h=>by omega);have HO3:=Zh hown3;clear hown3 hf3;go_wp2_with fail;go_roundw
    case rel=>exact⟨l++xl,j+1,_,by go_num,rfl,by rw[List.length_append];omega,by rw[List.length_append];exact HSUM.out,HWS.out.trans HIN.out,HO3.out,HF3.out⟩
    case measure=>simp[intOf];omega
  ·go_wp2_with fail;go_ret;have hje:j=l.length:=by omega
   have h9:=HIN.out;rw[hje,List.drop_length] at h9;exact⟨sizeF rfl (by simp[innerE] at h9;omega),hfr⟩
theorem appR_of {t e:TypeId} {z:Value} {size bytes:Nat} (ht:Tryz.prog.underlying t=some (.slice e)) (hi:(Tryz.prog.info? e).map (fun i=>(i.zero,i.size,i.bytes))=some (some z,size,bytes)) (hzs:z.cells.size=size) (hsz:0<size) (ty:TypeId)
  (ok:Nat→Prop) (base:Nat) (v:Value) (w:World) (l:List (List D)) (hown:OwnX ok base e size w v l) (hokb:∀k,ok k→k<base) (A:Option Addr) (c:Nat) (l':List (List D)) (hrd:RdRows ok w size A 0 l') (hone:∀ds∈l',∀d∈ds,d.one)
  (h63:l.length+l'.length≤maxLen) (hbytes:((l.length+l'.length)+(l.length+l'.length) / 4+192)*bytes≤281474976710656) (hbase:base≤w.heap.size):
  ∃v' w',(Builtin.append_ #[t,t] ty #[v,.slice A l'.length c]).run Tryz.prog w= .ok v' w'∧OwnX ok base e size w' v' (l++l')∧Fr (fun k=>base≤k∧v.ownBlock=some k) w w':=by
 obtain⟨i0,h0,h1,h2,h3⟩:=info_parts hi;obtain⟨xs,hrow,hcs⟩:=hown;cases A with
 |some ad=>
  obtain⟨us,hch,hce⟩:∃us,Chunks ok w size l' us∧∀j u,us[j]? =some u→w.cell? (ad.add j)=some u:=by
   by_cases hne:l'=[]
   ·subst hne;exact⟨[],rfl,fun j u hu=>by simp at hu⟩
   ·obtain⟨ad',us,e,g1,g2⟩:=hrd.src hne;cases e;exact⟨us,g1,g2⟩
  obtain⟨v',w',hr,hrow',hg,hwh⟩:=run_append_where (P:=Tryz.prog) w base t ty e i0 z size bytes ht h0 h1 h2 h3 hzs hsz v l.length xs hrow ad l'.length c us hch.length hce (hch.ones hone) h63 hbytes hbase;have hfr:Fr (fun k=>base≤k∧v.ownBlock=some k) w w':=⟨hg.os,hg.tape,hg.output,hg.size,fun k hk hn=>hg.block k hk fun e=>hn ⟨(hrow.lt k e.symm).1,e.symm⟩⟩;have key:∀b o u,ok b→w.cell? ⟨b,o,none⟩=some u→w'.cell? ⟨b,o,none⟩=some u:=fun b o u hb hc=>hfr.cell' hc fun hx=>by have h8:=hokb b hb;have h9:base≤b:=hx.1;omega
  exact⟨v',w',hr,⟨xs++us,by rw[List.length_append];exact hrow',Chunks.append (hch.mono key fun _ h=>h) (hcs.mono key fun _ h=>h)⟩,hfr⟩
 |none=>
  have hne:l'=[]:=by
   cases l' with
   |nil=>rfl
   |cons ds l'=>obtain⟨⟨b,o,e,_⟩,_⟩:=hrd;cases e
  subst hne;have hr:(Builtin.append_ #[t,t] ty #[v,.slice none ([]:List (List D)).length c]).run Tryz.prog w= .ok v w:=by
   rcases hrow.2 with⟨rfl,h9⟩|⟨g,cap,cur,rfl,_,_,hnc,_⟩
   ·simp[Builtin.append_,run_underlying ht,sizeOf,typeInfo,h0,Builtin.lenOf,Builtin.firstCells]
   ·simp[Builtin.append_,run_underlying ht,sizeOf,typeInfo,h0,Builtin.lenOf,Builtin.firstCells,hnc,storeCells]
  exact⟨v,w,hr,by rw[List.append_nil];exact⟨xs,hrow,hcs⟩,Fr.refl _ _⟩
theorem appR_st (ok:Nat→Prop) (base:Nat) (v:Value) (w:World) (l:List St) (hown:OwnX ok base 47 9 w v (St.ds l)) (hokb:∀k,ok k→k<base) (A:Option Addr) (c:Nat) (l':List St) (hrd:RdRows ok w 9 A 0 (St.ds l'))
  (hl:l.length≤900) (hq:l'.length*144≤reach) (hbase:base≤w.heap.size):
  ∃A' c' w',(Builtin.append_ #[33,33] 33 #[v,.slice A l'.length c]).run Tryz.prog w= .ok (.slice A' (l++l').length c') w'∧OwnX ok base 47 9 w' (.slice A' (l++l').length c') (St.ds (l++l'))∧Fr (fun k=>base≤k∧v.ownBlock=some k) w w':=by
 have h1:(St.ds l).length=l.length:=by rw[St.ds_eq,List.length_map]
 have h2:(St.ds l').length=l'.length:=by rw[St.ds_eq,List.length_map]
 have h3:St.ds l++St.ds l'=St.ds (l++l'):=by rw[St.ds_eq,St.ds_eq,St.ds_eq,List.map_append]
 have h4:(St.ds (l++l')).length=(l++l').length:=by rw[St.ds_eq,List.length_map]
 obtain⟨v',w',g1,g2,g3⟩:=appR_of (z:=stZ) (t:=33) (e:=47) (size:=9) (bytes:=144) (by kernel_rfl) (by kernel_rfl) rfl (by decide) 33 ok base v w (St.ds l) hown hokb A c (St.ds l') hrd (one_sts _) (by rw[h1,h2];unfold reach at hq;unfold maxLen;omega) (by rw[h1,h2];unfold reach at hq;omega) hbase;rw[h2] at g1;rw[h3] at g2;obtain⟨A',c',rfl,_⟩:=g2.slice;rw[h4] at g1 g2;exact⟨A',c',w',g1,g2,g3⟩
theorem inner_append (l r:List St):inner (l++r)=inner l+inner r:=by simp[inner]
theorem inner_drop (l:List St) (j:Nat) (h:j<l.length):inner (l.drop j)=(St.sizes l[j].body+St.sizes l[j].els)+inner (l.drop (j+1)):=by
 rw[List.drop_eq_getElem_cons h,inner,List.map_cons,List.sum_cons];rfl
theorem sizes_append (l r:List St):St.sizes (l++r)=St.sizes l+St.sizes r:=by rw[←inner_all,←inner_all l,←inner_all r,inner_append,List.length_append];omega
theorem work_step (l:List St) (j:Nat) (h:j<l.length):(l++l[j].body++l[j].els).length+inner ((l++l[j].body++l[j].els).drop (j+1))=l.length+inner (l.drop j):=by
 rw[inner_drop l j h,List.append_assoc,List.drop_append_of_le_length (by omega),inner_append,inner_append,List.length_append,List.length_append,←inner_all l[j].body,←inner_all l[j].els];omega
theorem fsizes_top (P:List Fu):∀j,St.sizes ((P.take j).flatMap fun f=>f.body)=Fu.sizes (P.take j):=by
 intro j;generalize P.take j=l
 induction l with
 |nil=>rfl
 |cons f l ih=>simp only[List.flatMap_cons,Fu.sizes,Fu.size] at ih ⊢;rw[sizes_append,ih]
theorem OwnX.lt {ok:Nat→Prop} {base:Nat} {e:TypeId} {sz:Nat} {w:World} {v:Value} {l:List (List D)} (h:OwnX ok base e sz w v l) (k:Nat) (hk:v.ownBlock=some k):k<w.heap.size:=by
 obtain⟨xs,h1,_⟩:=h;exact(h1.lt k hk).2
theorem app_step {P:Program} {ops:Array Oper} {o:Oper} {a:Act} {K:Act→World→Prop} {Q:Exit→Act→World→Prop} {w w':World} {t:TypeId} {v u v':Value} (hgd:o.guard=none) (s x:Operand)
  (ho:o.op= .call {callee:=.builtin .append,args:=#[s,x],argTypes:=#[t,t]}) (hs:a.eval s=v) (hx:a.eval x=u) (hr:(Builtin.append_ #[t,t] o.type #[v,u]).run P w= .ok v' w')
  (h:K (a.put o.dst v') w'):if Region.wanted o (yielded ops a.tmps)=true then Oper.wp P o a w K Q else K (a.put o.dst undef) w:=by
 rw[if_pos (by simp[Region.wanted,hgd])];unfold Oper.wp execOp;simp only[ho,resolve,invoke,builtin,Sem.run_bind,Sem.run_pure,Result.andThen_ok,List.map_toArray,List.map_cons,List.map_nil,hs,hx,hr];exact h
mutual
def St.light:St→Prop
 | .mk _ _ _ _ _ ex _ body els=>(∀e∈ex,e.size≤2000)∧St.lights body∧St.lights els
def St.lights:List St→Prop
 |[]=>True
 |s::l=>s.light∧St.lights l
end
theorem St.light_eq (s:St):s.light=((∀e∈s.ex,e.size≤2000)∧St.lights s.body∧St.lights s.els):=by cases s;rfl
theorem lights_iff:∀l:List St,St.lights l↔∀s∈l,s.light
 |[]=>by simp[St.lights]
 |s::l=>by simp[St.lights,lights_iff l]
theorem lights_append (l r:List St):St.lights (l++r)↔St.lights l∧St.lights r:=by
 rw[lights_iff,lights_iff,lights_iff];simp only[List.mem_append];exact⟨fun h=>⟨fun s hs=>h s (.inl hs),fun s hs=>h s (.inr hs)⟩,fun h s hs=>hs.elim (h.1 s) (h.2 s)⟩
theorem lights_step (l:List St) (j:Nat) (h:j<l.length) (hx:∀e∈l[j].ex,e.size≤2000) (hd:St.lights ((l++l[j].body++l[j].els).drop (j+1))):St.lights (l.drop j):=by
 rw[List.append_assoc,List.drop_append_of_le_length (by omega),lights_append,lights_append] at hd;rw[List.drop_eq_getElem_cons h,St.lights,St.light_eq];exact⟨⟨hx,hd.2.1,hd.2.2⟩,hd.1⟩
def Rets (l:List Fu):Prop:=∀f∈l,∀e∈f.ret,e.size≤2000
theorem rets_snoc {l:List Fu} {f:Fu} (h:Rets l) (hf:∀e∈f.ret,e.size≤2000):Rets (l++[f]):=by
 intro g hg;rcases List.mem_append.1 hg with hg|hg
 ·exact h g hg
 ·rw[List.mem_singleton.1 hg];exact hf
def Fu.light (f:Fu):Prop:=St.lights f.body∧∀e∈f.ret,e.size≤2000
theorem lights_flat:∀(P:List Fu),St.lights (P.flatMap fun f=>f.body)→Rets P→∀f∈P,f.light
 |[],_,_,f,hf=>by cases hf
 |g::P,h,hr,f,hf=>by
  rw[List.flatMap_cons,lights_append] at h;rcases List.mem_cons.1 hf with rfl|hf
  ·exact⟨h.1,hr f (by simp)⟩
  ·exact lights_flat P h.2 (fun g' hg'=>hr g' (by simp[hg'])) f hf
theorem all_till {l:List Ex} {k:Nat} (hk:l.length≤k) (h:∀i (hi:i<l.length),i<k→l[i].size≤2000):∀e∈l,e.size≤2000:=fun e he=>by
 obtain⟨i,hi,rfl⟩:=List.mem_iff_getElem.1 he;exact h i hi (by omega)
theorem till_snoc {l:List Ex} {k:Nat} (h:∀i (hi:i<l.length),i<k→l[i].size≤2000) (hk:∀hk:k<l.length,l[k].size≤2000):∀i (hi:i<l.length),i<k+1→l[i].size≤2000:=fun i hi hik=>by
 rcases Nat.lt_or_eq_of_le (Nat.le_of_lt_succ hik) with h'|rfl
 ·exact h i hi h'
 ·exact hk hi
def LargeR (P:List Fu) (e:Ending):Prop:=∃b,e= .returned (.bool b)∧(b=false→P.length≤30∧Fu.sizes P≤900∧∀f∈P,f.light)
theorem largeT {P:List Fu} {v:Value} (h:v= .bool true):LargeR P (.returned v):=⟨true,by rw[h],fun h=>by cases h⟩
theorem largeB {P:List Fu} {b:Bool} {v:Value} (h:v= .bool b) (hb:b=false→P.length≤30∧Fu.sizes P≤900∧∀f∈P,f.light):LargeR P (.returned v):=⟨b,by rw[h],hb⟩
theorem large08_any (P:List Fu) (ok:Nat→Prop) (A:Option Addr) (c:Nat) (w:World) (hr:RdRows ok w 5 A 0 (P.map Fu.d)) (hc:P.length*96≤reach) (hok:∀q,ok q→q<w.heap.size):
  Calls Tryz.prog 10 #[.agg #[.slice A P.length c]] w fun e w'=>LargeR P e∧Fr Non w w':=by
 have hlen:P.length≤140737488355328:=by unfold reach at hc;omega
 have HOK:=Zh hok;clear hok;obtain⟨W1,HW1⟩:∃W1,W1=w.alloc (.cells #[.slice A P.length c] 24):=⟨_,rfl⟩;have hf1:Fr Non w W1:=by rw[HW1];exact(Zf w).alloc _
 have hb1:W1.heap[w.heap.size]? =some (.cells #[.slice A P.length c] 24 (0,0)):=by rw[HW1];exact blk_new _ _ _
 have hzW:W1.heap.size=w.heap.size+1:=by rw[HW1];simp
 have HR:=Zh (hr.fr hf1 (fun _ _=>non _) (fun _ h=>h));clear hr;have HF1:=Zh hf1;clear hf1;have HB1:=Zh hb1;clear hb1;go_enter Tryz.func10,Tryz.ntmps10;go_upto_region 1 with fail;rw[←HW1];clear HW1;go_upto_block 0 with fail
 go_cut [3,4,5] (fun v3 v4 v5 wx=>∃(R:List St) (n:Int),v3= .int .i64 n∧R.length≤900∧(P.length≤30→St.sizes R=Fu.sizes P∧R=P.flatMap (fun f=>f.body)∧Rets P)∧OwnX ok (w.heap.size+1) 47 9 wx v4 (St.ds R)∧Fr Non W1 wx)
 case first=>
  have hz1:w.heap.size<W1.heap.size:=blk_lt HB1.out;go_wp2_with fail
  go_loopw [3,4,5] (fun t v i wr=>∃(j:Nat) (n:Int),i= .int .i64 j∧t= .int .i64 n∧j≤P.length∧j≤40∧((P.take j).flatMap fun f=>f.body).length≤900∧Rets (P.take j)∧OwnX ok (w.heap.size+1) 47 9 wr v (St.ds ((P.take j).flatMap fun f=>f.body))∧Fr Non W1 wr) (fun _ _ i _=>P.length-(intOf i).toNat)
  case atStart=>exact⟨0,0,rfl,rfl,by omega,by omega,by simp,fun f hf=>by simp at hf,OwnX.nil _ _ _ _ _,Zf _⟩
  case round=>
   obtain⟨j,n,rfl,rfl,hj,hj4,hl9,hrt,how,hfr⟩:=hrel;have HRT:=Zh hrt;clear hrt;have g0:=hfr.cell' ((Zc HB1.out).1 0 _ rfl) (non _);have HTF:=Zh (fsizes_top P j);by_cases hlt:j<P.length
   ·by_cases h40:j<40
    ·obtain⟨b,o1,A1,c1,A2,c2,A3,c3,rfl,hb,e0,e1,e2,e3,e4,⟨p1,q1,r1⟩,⟨p2,q2,r2⟩,⟨p3,q3,r3⟩⟩:=at_fu (HR.out.fr hfr (fun _ _=>non _) (fun _ h=>h)) j hlt;have HTS:=Zh (take_snoc P j hlt);have hl1:P[j].params.length≤140737488355328:=by unfold reach at q1;omega
     have hl2:P[j].body.length≤140737488355328:=by unfold reach at q2;omega
     have hl3:P[j].ret.length≤140737488355328:=by unfold reach at q3;omega
     generalize hf:P[j]=f at*;clear hf;go_upto_region 8 with fail;obtain⟨W2,HW2⟩:∃W2,W2=wr.alloc (.cells #[.string f.name,.slice A1 f.params.length c1,.slice A2 f.body.length c2,.bool f.sec,.slice A3 f.ret.length c3] 36):=⟨_,rfl⟩;rw[←HW2];have hf2:Fr Non wr W2:=by rw[HW2];exact(Zf wr).alloc _
     have hbx:W2.heap[wr.heap.size]? =some (.cells #[.string f.name,.slice A1 f.params.length c1,.slice A2 f.body.length c2,.bool f.sec,.slice A3 f.ret.length c3] 36 (0,0)):=by rw[HW2];exact blk_new _ _ _
     clear HW2;have x2:=(Zc hbx).1 2 _ rfl;have hzr:W1.heap.size≤wr.heap.size:=hfr.size;have hz2:=hf2.size;have HBX:=Zh hbx;clear hbx;have HR1:=Zh (r1.fr hf2 (fun _ _=>non _) (fun _ h=>h));clear r1;have HR2:=Zh (r2.fr hf2 (fun _ _=>non _) (fun _ h=>h));clear r2;have HR3:=Zh (r3.fr hf2 (fun _ _=>non _) (fun _ h=>h));clear r3;have HOW:=Zh (how.fr hf2 (fun k _=>non k) (fun k _=>non k));have HLT:=Zh how.lt;clear how;have HF2:=Zh (hfr.trans hf2);clear hfr hf2 g0 e0 e1 e2 e3 e4;have hdl:(St.ds f.body).length=f.body.length:=by rw[St.ds_eq,List.length_map]
     go_wp2_with (at_builtin;refine appX_st rfl _ _ rfl ok (w.heap.size+1) u4 (St.ds ((P.take j).flatMap fun f=>f.body)) rfl HOW.out ?okb A2 c2 (St.ds f.body) (by rw[hdl];rfl) HR2.out (one_sts _) ?b1 ?b2 ?b3 ?k)
     case okb=>intro k hk;have:=HOK.out k hk;omega
     case b1=>rw[hdl,St.ds_eq,List.length_map];unfold reach at q2;unfold maxLen;omega
     case b2=>rw[hdl,St.ds_eq,List.length_map];unfold reach at q2;omega
     case b3=>omega
     case k=>
     intro v3 w3 hown3 hf3;have hbx3:=Zb HBX.out hf3 (by rintro⟨_,h2⟩;have:=HLT.out _ h2;omega);have HF3:=Zh (HF2.out.then hf3 fun k hk h=>by omega);have HR1':=Zh (HR1.out.fr hf3 (fun q hq h=>by have:=HOK.out q hq;omega) (fun _ h=>h));have HR3':=Zh (HR3.out.fr hf3 (fun q hq h=>by have:=HOK.out q hq;omega) (fun _ h=>h));have hz3:=hf3.size;clear hf3 x2;have hcat:St.ds ((P.take j).flatMap fun f=>f.body)++St.ds f.body=St.ds ((P.take (j+1)).flatMap fun f=>f.body):=by
      rw[HTS.out,List.flatMap_append,St.ds_eq,St.ds_eq,St.ds_eq,List.map_append];simp
     rw[hcat] at hown3;obtain⟨A4,c4,hv3,hc4⟩:=hown3.slice;have hdl4:(St.ds ((P.take (j+1)).flatMap fun f=>f.body)).length=((P.take (j+1)).flatMap fun f=>f.body).length:=by rw[St.ds_eq,List.length_map]
     rw[hdl4] at hv3 hc4;subst hv3;generalize hR:((P.take (j+1)).flatMap fun f=>f.body)=R at*;have HRR:=Zh hR;clear hR hdl4 hcat hdl;have HO3:=Zh hown3;clear hown3;have HBX3:=Zh hbx3;clear hbx3;obtain⟨wp,rfl⟩:∃wp:World,wp=wr:=⟨_,rfl⟩;go_upto_block 2 with fail
     go_cut [7] (fun v7 wx=>Fr Non w3 wx∧(f.ret.length≤20→∀e∈f.ret,e.size≤2000))
     case first=>
      go_wp2_with fail
      go_loopw [7] (fun i wq=>∃k:Nat,i= .int .i64 k∧k≤f.ret.length∧k≤20∧(∀i (hi:i<f.ret.length),i<k→f.ret[i].size≤2000)∧Fr Non w3 wq) (fun i _=>f.ret.length-(intOf i).toNat)
      case atStart=>exact⟨0,rfl,by omega,by omega,fun i _ h=>by omega,Zf _⟩
      case round=>
       obtain⟨k,rfl,hk,hk20,htl,hfq⟩:=hrel;have HTL:=Zh htl;clear htl;have hbq:=Zb HBX3.out hfq (non _);have x4:=(Zc hbq).1 4 _ rfl;by_cases hk1:k<f.ret.length
       ·by_cases hk2:k<20
        ·obtain⟨b5,o5,A5,c5,rfl,hb5,y0,y1,y2,y3,y4,y5,y6,y7⟩:=at_ex (HR3'.out.fr hfq (fun _ _=>non _) (fun _ h=>h)) k hk1;have HFQ:=Zh hfq;clear hfq;have HLG:=Zh (large07_any f.ret[k] ok A5 c5 wr y7 y5 y6 (fun q hq=>by have:=HOK.out q hq;have:=HFQ.out.size;omega));clear y5 y6 y7 hbq;go_wp2_with fail;refine HLG.out.mono ?_;rintro e w5 ⟨⟨b6,rfl,hb6⟩,hf5⟩;have HB6:=Zh hb6;clear hb6;have HF5:=Zh (HFQ.out.trans hf5);clear hf5;cases b6 with
         |true=>
          go_wp2_with fail;go_ret;exact⟨largeT rfl,HF1.out.trans (HF3.out.trans HF5.out)⟩
         |false=>
          go_wp2_with fail;go_roundw
          case rel=>exact⟨k+1,by go_num,by omega,by omega,till_snoc HTL.out fun _=>by simpa using HB6.out,HF5.out⟩
          case measure=>simp[intOf];omega
        ·go_wp2_with fail
         go_meet
         exact⟨hfq,fun h=>all_till (k:=k) (by omega) HTL.out⟩
       ·go_wp2_with fail
        go_meet
        exact⟨hfq,fun h=>all_till (k:=k) (by omega) HTL.out⟩
     case rest=>
      obtain⟨hcut,hre⟩:=hcut;have HRE:=Zh hre;clear hre;have HF4:=Zh (HF3.out.trans hcut);have hb4:=Zb HBX3.out hcut (non _);have HO4:=Zh (HO3.out.fr hcut (fun k _=>non k) (fun k _=>non k));have HR1q:=Zh (HR1'.out.fr hcut (fun _ _=>non _) (fun _ h=>h));have x1:=(Zc hb4).1 1 _ rfl;have x4:=(Zc hb4).1 4 _ rfl;clear hcut hb4;obtain⟨wq,rfl⟩:∃wq:World,wq=wc:=⟨_,rfl⟩;go_upto_block 4 with fail
      go_cut [3,8] (fun v3 v8 wx=>wx=wq∧∃n:Int,v3= .int .i64 n)
      case first=>
       go_wp2_with fail
       go_loop [3,8] (fun t i=>∃(k:Nat) (n:Int),i= .int .i64 k∧t= .int .i64 n∧k≤f.params.length) (fun _ i=>f.params.length-(intOf i).toNat)
       case atStart=>exact⟨0,_,rfl,rfl,by omega⟩
       case round=>
        obtain⟨k,n2,rfl,rfl,hk⟩:=hrel;by_cases hk1:k<f.params.length
        ·by_cases hk2:k<40
         ·obtain⟨b5,o5,rfl,hb5,y0,y1,y2,y3⟩:=at_pa HR1q.out k hk1;go_wp2_with fail
          go_round
          case rel=>exact⟨k+1,_,by go_num,rfl,by omega⟩
          case measure=>simp[intOf];omega
         ·go_wp2_with fail
          go_meet
          exact⟨rfl,_,rfl⟩
        ·go_wp2_with fail
         go_meet
         exact⟨rfl,_,rfl⟩
      case rest=>
       obtain⟨rfl,n2,rfl⟩:=hcut;by_cases h9:R.length≤900
       ·go_wp2_with fail;all_goals first
         |(go_ret;exact⟨largeT rfl,HF1.out.trans HF4.out⟩)
         |(go_roundw;(case rel=>exact⟨j+1,_,by go_num,rfl,by omega,by omega,by rw[HRR.out];exact h9,by rw[HTS.out];exact rets_snoc HRT.out (HRE.out (by omega)),by rw[HRR.out];exact HO4.out,HF4.out⟩);(case measure=>simp[intOf];omega))
       ·go_wp2_with fail;all_goals
         go_ret;exact⟨largeT rfl,HF1.out.trans HF4.out⟩
    ·go_wp2_with fail
     go_meet
     exact⟨_,_,rfl,hl9,fun h=>by omega,how,hfr⟩
   ·go_wp2_with fail
    go_meet
    have hje:j=P.length:=by omega
    subst hje;have hrt:=HRT.out;rw[List.take_length] at hrt;exact⟨_,_,rfl,hl9,fun h=>⟨by rw[HTF.out,List.take_length],by rw[List.take_length],hrt⟩,how,hfr⟩
 case rest=>
  obtain⟨R0,n0,rfl,hR0,hsz0,how0,hf0⟩:=hcut;have HOW0:=Zh how0;clear how0;have HF0:=Zh hf0;clear hf0;have HSZ0:=Zh hsz0;clear hsz0;obtain⟨wz,rfl⟩:∃wz:World,wz=wc:=⟨_,rfl⟩;go_upto_block 6 with fail
  go_cut [3,4,9] (fun v3 v4 v9 wx=>∃n:Int,v3= .int .i64 n∧St.sizes R0≤900∧St.lights R0∧Fr Non W1 wx)
  case first=>
   go_wp2_with fail
   go_loopw [3,4,9] (fun t v i wr=>∃(R:List St) (j:Nat) (n:Int),i= .int .i64 j∧t= .int .i64 n∧j≤R.length∧R.length≤900∧R.length+inner (R.drop j)=St.sizes R0∧(St.lights (R.drop j)→St.lights R0)∧OwnX ok (w.heap.size+1) 47 9 wr v (St.ds R)∧Fr Non W1 wr) (fun _ _ i _=>901-(intOf i).toNat)
   case atStart=>exact⟨R0,0,_,rfl,rfl,by omega,hR0,by rw[List.drop_zero];exact inner_all R0,fun h=>by rw[List.drop_zero] at h;exact h,HOW0.out,HF0.out⟩
   case round=>
    obtain⟨R,j,n,rfl,rfl,hj,hR,hin,hli,how,hfr⟩:=hrel;have HLI:=Zh hli;clear hli;have hdR:(St.ds R).length=R.length:=by rw[St.ds_eq,List.length_map]
    obtain⟨A1,c1,hv,hc1⟩:=how.slice;rw[hdR] at hv hc1;subst hv;by_cases hlt:j<R.length
    ·obtain⟨g,us,rfl,hg,hrd,hce⟩:=how.at j (by rw[hdR];exact hlt);have hd:(St.ds R)[j]'(by rw[hdR];exact hlt)=R[j].d:=by simp[St.ds_eq]
     rw[hd] at hrd;have HWS:=Zh (work_step R j hlt);have HWL:=Zh (lights_step R j hlt);generalize R[j]=x at*;obtain⟨xk,xn,xf,xs,xm,xe,xa,xb,xl⟩:=x;obtain⟨_,_,rfl,rfl,_,_,rfl,rfl,_,_,rfl,rfl,_,_,rfl,rfl,_,_,rfl,rfl,_,_,rfl,⟨B1,d1,rfl,k1,l1,r1⟩,_,_,rfl,⟨B2,d2,rfl,k2,l2,r2⟩,_,_,rfl,⟨B3,d3,rfl,k3,l3,r3⟩,_,_,rfl,⟨B4,d4,rfl,k4,l4,r4⟩,rfl⟩:=hrd;have e0:=hce 0 _ rfl;have e1:=hce 1 _ rfl;have e2:=hce 2 _ rfl;have e3:=hce 3 _ rfl;have e4:=hce 4 _ rfl;have e5:=hce 5 _ rfl;have e6:=hce 6 _ rfl;have e7:=hce 7 _ rfl;have e8:=hce 8 _ rfl;clear hce;rw[Nat.add_zero] at e0;have hdb:(St.ds xb).length=xb.length:=by rw[St.ds_eq,List.length_map]
     have hdc:(St.ds xl).length=xl.length:=by rw[St.ds_eq,List.length_map]
     rw[Ex.ds_length] at e5 k1 l1;rw[List.length_map] at e6 k2 l2;rw[hdb] at e7 k3 l3;rw[hdc] at e8 k4 l4;have m1:xe.length≤140737488355328:=by unfold reach at l1;omega
     have m2:xa.length≤140737488355328:=by unfold reach at l2;omega
     have m3:xb.length≤140737488355328:=by unfold reach at l3;omega
     have m4:xl.length≤140737488355328:=by unfold reach at l4;omega
     go_upto_region 24 with fail;obtain⟨W2,HW2⟩:∃W2,W2=wr.alloc (.cells #[vu8 xk,.string xn,.string xf,.bool xs,.bool xm,.slice B1 xe.length d1,.slice B2 xa.length d2,.slice B3 xb.length d3,.slice B4 xl.length d4] 47):=⟨_,rfl⟩;rw[←HW2];have hf2:Fr Non wr W2:=by rw[HW2];exact(Zf wr).alloc _
     have hbx:W2.heap[wr.heap.size]? =some (.cells #[vu8 xk,.string xn,.string xf,.bool xs,.bool xm,.slice B1 xe.length d1,.slice B2 xa.length d2,.slice B3 xb.length d3,.slice B4 xl.length d4] 47 (0,0)):=by rw[HW2];exact blk_new _ _ _
     clear HW2 e0 e1 e2 e3 e4 e5 e6 e7 e8;have x1:=(Zc hbx).1 1 _ rfl;have x2:=(Zc hbx).1 2 _ rfl;have x5:=(Zc hbx).1 5 _ rfl;have x6:=(Zc hbx).1 6 _ rfl;have x7:=(Zc hbx).1 7 _ rfl;have x8:=(Zc hbx).1 8 _ rfl;have hzr:W1.heap.size≤wr.heap.size:=hfr.size;have hz2:=hf2.size;have HBX:=Zh hbx;clear hbx;have HR1:=Zh (r1.fr hf2 (fun _ _=>non _) (fun _ h=>h));clear r1;have HR2:=Zh (r2.fr hf2 (fun _ _=>non _) (fun _ h=>h));clear r2;have HR3:=Zh (r3.fr hf2 (fun _ _=>non _) (fun _ h=>h));clear r3;have HR4:=Zh (r4.fr hf2 (fun _ _=>non _) (fun _ h=>h));clear r4;have HOW:=Zh (how.fr hf2 (fun k _=>non k) (fun k _=>non k));have HLT:=Zh how.lt;clear how;have HF2:=Zh (hfr.trans hf2);clear hfr hf2;obtain⟨wp,rfl⟩:∃wp:World,wp=wr:=⟨_,rfl⟩;by_cases h9:R.length+xb.length+xl.length≤900
     ·go_upto_block 8 with fail;all_goals try (go_ret;exact⟨largeT rfl,HF1.out.trans HF2.out⟩)
      have HX:=Zh x1;clear x1 x2 x6;have X7:=Zh x7;clear x7 HX;have X8:=Zh x8;clear x8;go_wp2_with fail
      go_loopw [11] (fun i wq=>∃k:Nat,i= .int .i64 k∧k≤xe.length∧(∀i (hi:i<xe.length),i<k→xe[i].size≤2000)∧Fr Non W2 wq) (fun i _=>xe.length-(intOf i).toNat)
      case atStart=>exact⟨0,rfl,by omega,fun i _ h=>by omega,Zf _⟩
      case round=>
       obtain⟨k,rfl,hk,htl,hfq⟩:=hrel;have HTL:=Zh htl;clear htl;have hbq:=Zb HBX.out hfq (non _);have y5:=(Zc hbq).1 5 _ rfl;by_cases hk1:k<xe.length
       ·obtain⟨b5,o5,A5,c5,rfl,hb5,z0,z1,z2,z3,z4,z5,z6,z7⟩:=at_ex (HR1.out.fr hfq (fun _ _=>non _) (fun _ h=>h)) k hk1;have HFQ:=Zh hfq;clear hfq;have HLG:=Zh (large07_any xe[k] ok A5 c5 wr z7 z5 z6 (fun q hq=>by have:=HOK.out q hq;have:=HFQ.out.size;omega));clear z5 z6 z7 hbq;go_wp2_with fail;refine HLG.out.mono ?_;rintro e w5 ⟨⟨b6,rfl,hb6⟩,hf5⟩;have HB6:=Zh hb6;clear hb6;have HF5:=Zh (HFQ.out.trans hf5);clear hf5;cases b6 with
        |true=>
         go_wp2_with fail;go_ret;exact⟨largeT rfl,HF1.out.trans (HF2.out.trans HF5.out)⟩
        |false=>
         go_wp2_with fail;go_roundw
         case rel=>exact⟨k+1,by go_num,by omega,till_snoc HTL.out fun _=>by simpa using HB6.out,HF5.out⟩
         case measure=>simp[intOf];omega
       ·have HXE:=Zh (all_till (k:=k) (by omega) HTL.out);have y6:=(Zc hbq).1 6 _ rfl;have HFQ:=Zh hfq;obtain⟨wq,rfl⟩:∃wq:World,wq=wr:=⟨_,rfl⟩;have HA:=Zh (HR2.out.fr hfq (fun _ _=>non _) (fun _ h=>h));clear hfq;go_upto_block 10 with fail
        go_cut [3,12] (fun v3 v12 wx=>wx=wq∧∃n:Int,v3= .int .i64 n)
        case first=>
         go_wp2_with fail
         go_loop [3,12] (fun t i=>∃(k:Nat) (n:Int),i= .int .i64 k∧t= .int .i64 n∧k≤xa.length) (fun _ i=>xa.length-(intOf i).toNat)
         case atStart=>exact⟨0,_,rfl,rfl,by omega⟩
         case round=>
          obtain⟨k,n2,rfl,rfl,hk⟩:=hrel;by_cases hk1:k<xa.length
          ·obtain⟨b5,o5,rfl,hb5,z0⟩:=at_str HA.out k hk1;go_wp2_with fail
           go_round
           case rel=>exact⟨k+1,_,by go_num,rfl,by omega⟩
           case measure=>simp[intOf];omega
          ·go_wp2_with fail
           go_meet
           exact⟨rfl,_,rfl⟩
        case rest=>
         obtain⟨rfl,n2,rfl⟩:=hcut;have hbw:=Zb HBX.out HFQ.out (non _);have hfd:=HFQ.out.drew;obtain⟨wd,hwd⟩:∃wd,wd=wc.drew:=⟨_,rfl⟩;rw[←hwd] at hfd;have hbd:=Zb HBX.out hfd (non _);have hzd:W2.heap.size≤wd.heap.size:=hfd.size;obtain⟨A5,c5,w5,hr5,ho5,hf5⟩:=appR_st ok (w.heap.size+1) (.slice (some ⟨g,0,none⟩) R.length c1) wd R (HOW.out.fr hfd (fun k _=>non k) (fun k _=>non k)) (fun k hk=>by have:=HOK.out k hk;omega) B3 d3 xb (HR3.out.fr hfd (fun _ _=>non _) (fun _ h=>h)) hR l3 (by omega);have hgl:=HLT.out g rfl
         have hb5:=Zb hbd hf5 (by rintro⟨_,h2⟩;have h3:g=wp.heap.size:=by simpa[Value.ownBlock] using h2
                                  omega)
         have HFd:=Zh (HF2.out.trans hfd);have HR4d:=HR4.out.fr hfd (fun _ _=>non _) (fun _ h=>h);have HR45:=HR4d.fr hf5 (fun q hq h=>by have:=HOK.out q hq;have:=h.1;omega) (fun _ h=>h);have HF5:=Zh (HFd.out.then hf5 fun k hk h=>by have:=h.1;omega);have hz5:=hf5.size;obtain⟨R1,hR1⟩:∃R1,R1=R++xb:=⟨_,rfl⟩;rw[←hR1] at hr5 ho5;have hR1l:R1.length=R.length+xb.length:=by rw[hR1,List.length_append]
         obtain⟨A6,c6,w6,hr6,ho6,hf6⟩:=appR_st ok (w.heap.size+1) (.slice A5 R1.length c5) w5 R1 ho5 (fun k hk=>by have:=HOK.out k hk;omega) B4 d4 xl HR45 (by omega) l4 (by omega);obtain⟨R2,hR2⟩:∃R2,R2=R1++xl:=⟨_,rfl⟩;rw[←hR2] at hr6 ho6;have hR2l:R2.length=R.length+xb.length+xl.length:=by rw[hR2,List.length_append,hR1l]
         have HR2L:=Zh hR2l;clear hR2l hR1l;have HF6:=Zh (HF5.out.then hf6 fun k hk h=>by have:=h.1;omega);have HO6:=Zh ho6;clear ho6 ho5 hf6 hf5 HR45 HR4d;have HWS2:=Zh (show R2.length+inner (R2.drop (j+1))=R.length+inner (R.drop j) by rw[hR2,hR1];exact HWS.out);have HLI2:=Zh (show St.lights (R2.drop (j+1))→St.lights R0 from fun h=>HLI.out (HWL.out HXE.out (by rw[hR2,hR1] at h;exact h)));have a7:=(Zc hbw).1 7 _ rfl;have a8:=(Zc hbw).1 8 _ rfl;have b7:=(Zc hbd).1 7 _ rfl;have b8:=(Zc hbd).1 8 _ rfl;have e8:=(Zc hb5).1 8 _ rfl;clear hbw hbd hb5 hfd hR2 hR1 hgl;subst hwd;go_wp2_with fail;refine wp_region_any (by kernel_rfl) ?_
         change wpAny _ _ _ _ _ _ _ (World.drew _)
         refine wpAny_take (i:=0) (v:=?_) rfl (by kernel_rfl) (by kernel_rfl) (by kernel_rfl) (fun _ _ _ h=>h) (Or.inl ⟨by rfl,?hy0⟩) ?rst0
         case hy0=>intro w;go_simp;first|done|with_reducible rfl
         case rst0=>
         refine wpAny_take (i:=1) (v:=?_) rfl (by kernel_rfl) (by kernel_rfl) (by kernel_rfl) (fun _ _ _ h=>h) (Or.inl ⟨by rfl,?hy1⟩) ?rst1
         case hy1=>intro w;go_simp;first|done|with_reducible rfl
         case rst1=>
         refine wpAny_take (i:=4) (v:=?_) rfl (by kernel_rfl) (by kernel_rfl) (by kernel_rfl) (fun _ _ _ h=>h) (Or.inl ⟨by rfl,?hy4⟩) ?rst4
         case hy4=>intro w;go_simp;first|done|with_reducible rfl
         case rst4=>
         refine wpAny_ready (rs:=[2,5]) (by kernel_rfl) (by simp) (AllReady.cons rfl (fun K hK=>?br2) (AllReady.cons rfl (fun K hK=>?br5) AllReady.nil))
         case br2=>
          go_simp;refine hK _ _ ?_;clear hK K;refine wpAny_ready (rs:=[3,5]) (by kernel_rfl) (by simp) (AllReady.cons rfl (fun K hK=>?br3) (AllReady.cons rfl (fun K hK=>?brr5) AllReady.nil))
          case br3=>
           refine app_step rfl _ _ rfl rfl rfl hr5 ?_;refine hK _ _ ?_;clear hK K;refine wpAny_ready (rs:=[5]) (by kernel_rfl) (by simp) (AllReady.cons rfl (fun K hK=>?_) AllReady.nil);go_simp;refine hK _ _ ?_;clear hK K;refine wpAny_ready (rs:=[6]) (by kernel_rfl) (by simp) (AllReady.cons rfl (fun K hK=>?_) AllReady.nil);refine app_step rfl _ _ rfl rfl rfl hr6 ?_;refine hK _ _ ?_;clear hK K;refine wpAny_ready (rs:=[7]) (by kernel_rfl) (by simp) (AllReady.cons rfl (fun K hK=>?_) AllReady.nil);go_simp;refine hK _ _ ?_;clear hK K;refine wpAny_done (by kernel_rfl) ?_ _;go_wp2_with fail;go_roundw
           case rel=>exact⟨R2,j+1,_,by go_num,rfl,by have:=HR2L.out;omega,by have:=HR2L.out;omega,by rw[HWS2.out];exact hin,HLI2.out,HO6.out,HF6.out⟩
           case measure=>simp[intOf];omega
          case brr5=>
           go_simp;refine hK _ _ ?_;clear hK K;refine wpAny_ready (rs:=[3]) (by kernel_rfl) (by simp) (AllReady.cons rfl (fun K hK=>?_) AllReady.nil);refine app_step rfl _ _ rfl rfl rfl hr5 ?_;refine hK _ _ ?_;clear hK K;refine wpAny_ready (rs:=[6]) (by kernel_rfl) (by simp) (AllReady.cons rfl (fun K hK=>?_) AllReady.nil);refine app_step rfl _ _ rfl rfl rfl hr6 ?_;refine hK _ _ ?_;clear hK K;refine wpAny_ready (rs:=[7]) (by kernel_rfl) (by simp) (AllReady.cons rfl (fun K hK=>?_) AllReady.nil);go_simp;refine hK _ _ ?_;clear hK K;refine wpAny_done (by kernel_rfl) ?_ _;go_wp2_with fail;go_roundw
           case rel=>exact⟨R2,j+1,_,by go_num,rfl,by have:=HR2L.out;omega,by have:=HR2L.out;omega,by rw[HWS2.out];exact hin,HLI2.out,HO6.out,HF6.out⟩
           case measure=>simp[intOf];omega
         case br5=>
          go_simp;refine hK _ _ ?_;clear hK K;refine wpAny_ready (rs:=[2]) (by kernel_rfl) (by simp) (AllReady.cons rfl (fun K hK=>?_) AllReady.nil);go_simp;refine hK _ _ ?_;clear hK K;refine wpAny_ready (rs:=[3]) (by kernel_rfl) (by simp) (AllReady.cons rfl (fun K hK=>?_) AllReady.nil);refine app_step rfl _ _ rfl rfl rfl hr5 ?_;refine hK _ _ ?_;clear hK K;refine wpAny_ready (rs:=[6]) (by kernel_rfl) (by simp) (AllReady.cons rfl (fun K hK=>?_) AllReady.nil);refine app_step rfl _ _ rfl rfl rfl hr6 ?_;refine hK _ _ ?_;clear hK K;refine wpAny_ready (rs:=[7]) (by kernel_rfl) (by simp) (AllReady.cons rfl (fun K hK=>?_) AllReady.nil);go_simp;refine hK _ _ ?_;clear hK K;refine wpAny_done (by kernel_rfl) ?_ _;go_wp2_with fail;go_roundw
          case rel=>exact⟨R2,j+1,_,by go_num,rfl,by have:=HR2L.out;omega,by have:=HR2L.out;omega,by rw[HWS2.out];exact hin,HLI2.out,HO6.out,HF6.out⟩
          case measure=>simp[intOf];omega
     ·go_upto_block 8 with fail;all_goals try (go_ret;exact⟨largeT rfl,HF1.out.trans HF2.out⟩)
    ·go_wp2_with fail
     go_meet
     have hje:j=R.length:=by omega
     subst hje;rw[List.drop_length] at hin;have hl0:=HLI.out (by rw[List.drop_length];exact trivial);exact⟨_,rfl,by simp[inner] at hin;omega,hl0,hfr⟩
  case rest=>
   obtain⟨n,rfl,hsz,hlt0,hfx⟩:=hcut;have x0:=hfx.cell' ((Zc HB1.out).1 0 _ rfl) (non _);by_cases h30:P.length≤30
   ·go_wp2_with fail;go_ret;exact⟨largeB rfl fun _=>⟨h30,by rw[←(HSZ0.out h30).1];exact hsz,lights_flat P (by rw[←(HSZ0.out h30).2.1];exact hlt0) (HSZ0.out h30).2.2⟩,HF1.out.trans hfx⟩
   ·go_wp2_with fail;go_ret;exact⟨largeT rfl,HF1.out.trans hfx⟩
section
open Go.Shelf
open Go.Proofs
def Tryz.lays171_ren:Go.Shelf.Ren:=⟨fun|171=>176|243=>177|246=>178|283=>179|284=>180|285=>181|286=>182|129=>184|317=>183|318=>185|319=>186|320=>187|337=>188|338=>189|n=>n,fun|3=>3|9=>9|2=>2|4=>4|171=>212|0=>0|53=>42|37=>68|5=>5|173=>215|212=>219|51=>202|20=>20|213=>220|46=>222|232=>225|233=>226|n=>n,fun|17=>1|18=>2|19=>3|n=>n⟩
theorem Tryz.lays171:Go.Proofs.LaysM.n171 Tryz.prog Tryz.lays171_ren:={
 mixed:=by kernel_rfl
 f129:=Tryz.func184.trans (congrArg some (by kernel_rfl))
 f171:=Tryz.func176.trans (congrArg some (by kernel_rfl))
 f243:=Tryz.func177.trans (congrArg some (by kernel_rfl))
 f246:=Tryz.func178.trans (congrArg some (by kernel_rfl))
 f283:=Tryz.func179.trans (congrArg some (by kernel_rfl))
 f284:=Tryz.func180.trans (congrArg some (by kernel_rfl))
 f285:=Tryz.func181.trans (congrArg some (by kernel_rfl))
 f286:=Tryz.func182.trans (congrArg some (by kernel_rfl))
 f317:=Tryz.func183.trans (congrArg some (by kernel_rfl))
 f318:=Tryz.func185.trans (congrArg some (by kernel_rfl))
 f319:=Tryz.func186.trans (congrArg some (by kernel_rfl))
 f320:=Tryz.func187.trans (congrArg some (by kernel_rfl))
 f337:=Tryz.func188.trans (congrArg some (by kernel_rfl))
 f338:=Tryz.func189.trans (congrArg some (by kernel_rfl))
 t0:=Tryz.underlying0
 a0:=Tryz.isAgg0
 z0:=Tryz.sizeOf0
 v0:=Tryz.zeroValue0
 t2:=Tryz.underlying2
 a2:=Tryz.isAgg2
 z2:=Tryz.sizeOf2
 v2:=Tryz.zeroValue2
 t3:=Tryz.underlying3
 a3:=Tryz.isAgg3
 z3:=Tryz.sizeOf3
 v3:=Tryz.zeroValue3
 t4:=Tryz.underlying4
 a4:=Tryz.isAgg4
 z4:=Tryz.sizeOf4
 v4:=Tryz.zeroValue4
 t5:=Tryz.underlying5
 a5:=Tryz.isAgg5
 z5:=Tryz.sizeOf5
 v5:=Tryz.zeroValue5
 t9:=Tryz.underlying9
 a9:=Tryz.isAgg9
 z9:=Tryz.sizeOf9
 v9:=Tryz.zeroValue9
 t20:=Tryz.underlying20
 a20:=Tryz.isAgg20
 z20:=Tryz.sizeOf20
 v20:=Tryz.zeroValue20
 t37:=Tryz.underlying68
 a37:=Tryz.isAgg68
 z37:=Tryz.sizeOf68
 v37:=Tryz.zeroValue68
 t46:=Tryz.underlying222
 a46:=Tryz.isAgg222
 z46:=Tryz.sizeOf222
 v46:=Tryz.zeroValue222
 t51:=Tryz.underlying202
 a51:=Tryz.isAgg202
 z51:=Tryz.sizeOf202
 v51:=Tryz.zeroValue202
 t53:=Tryz.underlying42
 a53:=Tryz.isAgg42
 z53:=Tryz.sizeOf42
 v53:=Tryz.zeroValue42
 t171:=Tryz.underlying212
 a171:=Tryz.isAgg212
 z171:=Tryz.sizeOf212
 v171:=Tryz.zeroValue212
 t173:=Tryz.underlying215
 a173:=Tryz.isAgg215
 z173:=Tryz.sizeOf215
 v173:=Tryz.zeroValue215
 t212:=Tryz.underlying219
 a212:=Tryz.isAgg219
 z212:=Tryz.sizeOf219
 v212:=Tryz.zeroValue219
 t213:=Tryz.underlying220
 a213:=Tryz.isAgg220
 z213:=Tryz.sizeOf220
 t232:=Tryz.underlying225
 a232:=Tryz.isAgg225
 z232:=Tryz.sizeOf225
 v232:=Tryz.zeroValue225
 t233:=Tryz.underlying226
 a233:=Tryz.isAgg226
 z233:=Tryz.sizeOf226
 v233:=Tryz.zeroValue226
 g17:=by kernel_rfl
 g18:=by kernel_rfl
 g19:=by kernel_rfl
 i0:=by kernel_rfl
 i2:=by kernel_rfl
 i3:=by kernel_rfl
 i4:=by kernel_rfl
 i5:=by kernel_rfl
 i9:=by kernel_rfl
 i20:=by kernel_rfl
 i37:=by kernel_rfl
 i46:=by kernel_rfl
 i51:=by kernel_rfl
 i53:=by kernel_rfl
 i171:=by kernel_rfl
 i173:=by kernel_rfl
 i212:=by kernel_rfl
 i232:=by kernel_rfl
 i233:=by kernel_rfl
 m17:=by kernel_rfl
 m18:=by kernel_rfl
 m19:=by kernel_rfl}
end
section
open Go.Shelf Go.Sort Go.Lib
abbrev b8:UInt8→Value:=fun(b:UInt8)=>Value.int .u8 (b.toNat:Int)
def fmtL (nd u:Nat):List UInt8:=if nd=2 then[Lib.sm (u%100*2),Lib.sm (u%100*2+1)] else Lib.decDigits u
def fmtM (tb:Int) (u:Nat):ByteArray:=if u<100 then⟨(Lib.decDigits u).toArray⟩ else⟨(fmtL (if tb≤u then 3 else 2) u).toArray⟩
theorem len64_any (u:Nat) (h:u<512) (w:World):Calls Tryz.prog 184 #[.int .u64 u] w fun e w'=>e= .returned (.int .i64 (Lib.bitLen u))∧w'=w:=by
 have:=Any.bits_Len64 {Tryz.lays171 with} (u:Int) w (by omega) (by omega);rw[show((u:Int)).toNat=u by omega] at this;exact this
theorem log10_any (x:Nat) (h:x≤64) (w:World):Calls Tryz.prog 183 #[.int .i64 x] w fun e w'=>e= .returned (.int .i64 (Lib.l10 x))∧w'=w:=
 Any.internal_strconv_log10Pow2 {Tryz.lays171 with} x h w
theorem bool2_any (b:Bool) (w:World):Calls Tryz.prog 185 #[.bool b] w fun e w'=>e= .returned (.int .i64 (if b then 1 else 0))∧w'=w:=
 Any.internal_strconv_bool2_int {Tryz.lays171 with} b w
theorem bitLen_512:∀u:Fin 512,100≤u.val→Lib.bitLen u.val≤64∧Lib.l10 (Lib.bitLen u.val)=2:=by decide+kernel
theorem numDigits_any (u:Nat) (h1:100≤u) (h2:u<512) (tb:Int) (w:World) (hc:w.cell? ⟨1,2,none⟩=some (.int .u64 tb)):
  Calls Tryz.prog 180 #[.int .u64 u] w fun e w'=>e= .returned (.int .i64 ((if tb≤u then 3 else 2:Nat):Int))∧w'=w:=by
 obtain⟨hb,hl⟩:=bitLen_512 ⟨u,h2⟩ h1;simp only at hb hl;go_enter Tryz.func180,Tryz.ntmps180;go_wp2_with fail;refine(len64_any u h2 w).mono ?_;rintro e w1 ⟨rfl,rfl⟩;go_wp2_with fail;refine(log10_any _ hb w1).mono ?_;rintro e w2 ⟨rfl,rfl⟩;rw[hl];go_wp2_with fail;refine(bool2_any _ w2).mono ?_;rintro e w3 ⟨rfl,rfl⟩;go_wp2_with fail;all_goals go_ret
 all_goals exact⟨by simp_all,rfl⟩
theorem fb2_any (blk off cap u:Nat) (h1:100≤u) (h2:u<512) (d:Array UInt8) (hd:d.size=2) (w:World) (hH:Holds b8 w blk off d):
  Calls Tryz.prog 181 #[.slice (some ⟨blk,off,none⟩) 2 cap,.int .u64 u] w fun e w'=>e= .returned (.tuple #[])∧
   ∃n,w'=(putRow b8 w blk off #[Lib.sm (u%100*2),Lib.sm (u%100*2+1)]).drewN n:=by
 have c0:=(hH 0 (by omega)).1;have c1:=(hH 1 (by omega)).1;have f0:=(hH 0 (by omega)).2;have f1:=(hH 1 (by omega)).2;rw[Nat.add_zero] at c0 f0;have HH:=Zh hH;clear hH;have HD:=Zh hd;clear hd;go_enter Tryz.func181,Tryz.ntmps181
 go_name_bytes SM hSM
 have eSM:SM=Lib.smalls:=by rw[←hSM];decide+kernel
 subst eSM;clear hSM;go_wp2_with fail;refine wp_loop_rounds 1 ?_;rw[rounds_succ];go_wp2_with fail
 go_name_slot 16 x0 hx0
 have hxe0:x0=((u%100*2:Nat):Int):=by omega
 have hXa0:∀w,(Instr.index 9 (.string Lib.smalls) (.int .u32 (x0+1))).run Tryz.prog w= .ok (.int .u8 ((Lib.sm (u%100*2+1)).toNat:Int)) w:=idx_smalls 9 Tryz.underlying9 .u32 _ _ (by omega) (by omega);have hXb0:∀w,(Instr.index 9 (.string Lib.smalls) (.int .u32 x0)).run Tryz.prog w= .ok (.int .u8 ((Lib.sm (u%100*2)).toNat:Int)) w:=idx_smalls 9 Tryz.underlying9 .u32 _ _ (by omega) (by omega);have hlo0:0≤x0:=by omega
 have hhi0:x0≤198:=by omega
 clear hx0 hxe0
 go_region
 go_wp2_with fail
 go_end0
 refine⟨rfl,1,?_⟩;have e:=store2_world w blk off d 0 1 0 (Lib.sm (u%100*2+1)) (Lib.sm (u%100*2)) (by rw[HD.out];omega) (by rw[HD.out];omega);rw[World.drewN_zero,putRow_self _ _ _ _ _ HH.out,Nat.add_zero] at e;rw[show(#[Lib.sm (u%100*2),Lib.sm (u%100*2+1)]:Array UInt8)=(d.setIfInBounds 1 (Lib.sm (u%100*2+1))).setIfInBounds 0 (Lib.sm (u%100*2)) from ?_]
 ·exact e
 ·obtain⟨l⟩:=d;have hd:=HD.out
  match l,hd with
  |[a,b],_=>rfl
theorem fb_any (blk off cap u nd:Nat) (hn:nd=2∨nd=3) (h1:100≤u) (h2:u<512) (d:Array UInt8) (hd:d.size=nd) (w:World) (hH:Holds b8 w blk off d):
  Calls Tryz.prog 181 #[.slice (some ⟨blk,off,none⟩) nd cap,.int .u64 u] w fun e w'=>e= .returned (.tuple #[])∧
   ∃(n:Nat) (dk:Array UInt8),dk.toList=fmtL nd u∧dk.size=nd∧w'=(putRow b8 w blk off dk).drewN n:=by
 rcases hn with rfl|rfl
 ·refine(fb2_any blk off cap u h1 h2 d hd w hH).mono ?_;rintro e w' ⟨rfl,n,rfl⟩;exact⟨rfl,n,_,rfl,rfl,rfl⟩
 ·have hk:=Any.internal_strconv_formatBase10 {Tryz.lays171 with} blk off cap u d w hH (by rw[hd];omega) (by omega) (by omega);rw[hd] at hk;refine hk.mono ?_;rintro e w' ⟨rfl,n,v',dk,rfl,hF⟩;have h3:Lib.nDigits u=3:=by
   rw[Lib.nDigits,dif_neg (by omega),Lib.nDigits,dif_neg (by omega),Lib.nDigits,dif_pos (by omega)]
  refine⟨rfl,n,dk,?_,hF.size,rfl⟩;rw[←h3] at hF;have hl:dk.toList.length=(Lib.decDigits u).length:=by rw[Lib.decDigits_length,Array.length_toList];exact hF.size
  refine List.ext_getElem hl fun j hj hj'=>?_;have:=Lib.row_is_numeral hF j hj';show dk.toList[j]=(Lib.decDigits u)[j]
  rw[this,getElem!_pos dk j (by simpa using hj)];simp
theorem fmtInt_any (u:Nat) (h2:u<512) (tb:Int) (w:World) (hc:w.cell? ⟨1,2,none⟩=some (.int .u64 tb)):
  Calls Tryz.prog 178 #[.int .i64 u,.int .i64 10] w fun e w'=>e= .returned (.string (fmtM tb u))∧Fr Non w w':=by
 by_cases hs:u<100
 ·refine(Any.internal_strconv_FormatInt_10_small {Tryz.lays171 with} u hs w).mono ?_;rintro e w' ⟨rfl,rfl⟩;exact⟨by rw[fmtM,if_pos hs],Zf _⟩
 ·have h1:100≤u:=by omega
  obtain⟨nd,hnd⟩:∃nd:Nat,nd=if tb≤u then 3 else 2:=⟨_,rfl⟩
  have hn:nd=2∨nd=3:=by rw[hnd];split<;>simp
  have hb3:nd≤23:=by omega
  have hal:(Tryz.prog).arrayLen 212=24:=by kernel_rfl
  have hsl1:∀W,(Instr.sliceAt 212 (.pointer (some ⟨w.heap.size,0,none⟩)) (some (.int .i64 1)) (some (.int .i64 (1+(nd:Int)))) none).run Tryz.prog W= .ok (.slice (some ⟨w.heap.size,1,none⟩) nd 23) W:=fun W=>by
   rw[run_sliceAt_array_lh W 212 ⟨w.heap.size,0,none⟩ (by simp[Program.arrayLen,Program.elem,Tryz.underlying212]) .i64 .i64 1 (1+(nd:Int)) (by omega) (by omega) (by rw[hal];omega)];go_simp;omega
  have hH0:=Lib.holds_zero w 212 nd (by omega);have hfmt:=fb_any w.heap.size 1 23 u nd hn h1 h2 (Array.replicate nd 0) (by simp) (w.alloc (.cells Lib.zeros24 212)) hH0;have hc':(w.alloc (.cells Lib.zeros24 212)).cell? ⟨1,2,none⟩=some (.int .u64 tb):=((Zf w).alloc _).cell' hc (non _);have hnum:=numDigits_any u h1 h2 tb _ hc';rw[←hnd] at hnum;have HND:=Zh hnd;have HH0:=Zh hH0;have HN:=Zh hn
  clear hH0 hal hnd hn hc hc';have HNUM:=Zh hnum;have HFMT:=Zh hfmt;clear hnum hfmt
  go_enter Tryz.func178,Tryz.ntmps178;go_wp2_with fail;refine HNUM.out.mono ?_;rintro e w1 ⟨rfl,rfl⟩;go_wp2_with fail;refine HFMT.out.mono ?_;rintro e w2 ⟨rfl,k,dk,hdk,hsz,rfl⟩;have hcv:(convert 68 9 (.slice (some ⟨w.heap.size,1,none⟩) nd 23)).run Tryz.prog ((putRow b8 (w.alloc (.cells Lib.zeros24 212)) w.heap.size 1 dk).drewN k)= .ok (.string ⟨(fmtL nd u).toArray⟩) ((putRow b8 (w.alloc (.cells Lib.zeros24 212)) w.heap.size 1 dk).drewN k):=by
   have h:=run_convert_bytes_back (P:=Tryz.prog) ((putRow b8 (w.alloc (.cells Lib.zeros24 212)) w.heap.size 1 dk).drewN k) 68 9 5 ⟨w.heap.size,1,none⟩ 23 (fmtL nd u) Tryz.underlying68 Tryz.underlying5 Tryz.underlying9 (fun j hj=>by
    have hj2:j<dk.size:=by rw[←hdk,Array.length_toList] at hj;exact hj
    rw[Lib.add_plain,World.cell?_drewN,cell?_putRow b8 _ w.heap.size 1 _ dk HH0.out (by rw[hsz,Array.size_replicate]) j hj2];have:(fmtL nd u)[j]=dk[j]! :=by
     rw[getElem!_pos dk j hj2];simp only[←hdk];simp
    rw[this])
   rw[←hdk,Array.length_toList,hsz] at h;rw[←hdk];exact h
  clear hdk hsz;go_wp2_with fail;go_ret;obtain⟨os,eo⟩:=Lib.fin_pos w (.cells Lib.zeros24 212) dk k;refine⟨by rw[fmtM,if_neg hs,←HND.out];rfl,?_⟩;rw[eo];exact⟨rfl,rfl,rfl,by simp[grow],fun i hi _=>by simp[grow];rw[Array.getElem?_append_left hi]⟩
theorem itoaI_any (u:Nat) (h2:u<512) (tb:Int) (w:World) (hc:w.cell? ⟨1,2,none⟩=some (.int .u64 tb)):
  Calls Tryz.prog 177 #[.int .i64 u] w fun e w'=>e= .returned (.string (fmtM tb u))∧Fr Non w w':=by
 have H:=Zh (fmtInt_any u h2 tb w hc);clear hc;go_enter Tryz.func177,Tryz.ntmps177;go_wp2_with fail;refine H.out.mono ?_;rintro e w1 ⟨rfl,hf⟩;go_wp2_with fail;go_ret;exact⟨rfl,hf⟩
theorem itoa_any (u:Nat) (h2:u<512) (tb:Int) (w:World) (hc:w.cell? ⟨1,2,none⟩=some (.int .u64 tb)):
  Calls Tryz.prog 176 #[.int .i64 u] w fun e w'=>e= .returned (.string (fmtM tb u))∧Fr Non w w':=by
 have H:=Zh (itoaI_any u h2 tb w hc);clear hc;go_enter Tryz.func176,Tryz.ntmps176;go_wp2_with fail;refine H.out.mono ?_;rintro e w1 ⟨rfl,hf⟩;go_wp2_with fail;go_ret;exact⟨rfl,hf⟩
end
theorem nDigits_512:∀u:Fin 512,Lib.nDigits u.val≤3:=by decide+kernel
theorem fmtM_size (tb:Int) (u:Nat) (h:u<512):(fmtM tb u).size≤3:=by
 have h3:=nDigits_512 ⟨u,h⟩;simp only at h3;unfold fmtM;split
 ·simp only[ByteArray.size,List.size_toArray,Lib.decDigits_length];exact h3
 ·have key:∀n,(fmtL n u).length≤3:=fun n=>by
   unfold fmtL;split
   ·simp
   ·rw[Lib.decDigits_length];exact h3
  simp only[ByteArray.size,List.size_toArray];exact key _
def errB:ByteArray:=⟨#[101,114,114,111,114,32]⟩
def atB:ByteArray:=⟨#[32,97,116,32]⟩
theorem errnoE_any (u:Nat) (h2:u<512) (tb:Int) (w:World) (hc:w.cell? ⟨1,2,none⟩=some (.int .u64 tb)):
  Calls Tryz.prog 175 #[.int .i64 u] w fun e w'=>e= .returned (.string (errB++fmtM tb u))∧Fr Non w w':=by
 have H:=Zh (itoa_any u h2 tb w hc);clear hc;have hs:=fmtM_size tb u h2;have hz:¬(9223372036854775807<6+(fmtM tb u).size):=by omega
 go_enter Tryz.func175,Tryz.ntmps175;go_wp2_with fail;refine H.out.mono ?_;rintro e w1 ⟨rfl,hf⟩;go_wp2_with fail;go_ret;exact⟨rfl,hf⟩
theorem faultE_any (u v:Nat) (h2:u<512) (h3:v<512) (tb:Int) (w:World) (hc:w.cell? ⟨1,2,none⟩=some (.int .u64 tb)):
  Calls Tryz.prog 190 #[.agg #[.int .i64 u,.int .i64 v]] w fun e w'=>e= .returned (.string ((errB++fmtM tb v)++atB++fmtM tb u))∧Fr Non w w':=by
 have HC:=Zh hc;clear hc;obtain⟨W1,HW1⟩:∃W1,W1=w.alloc (.cells #[.int .i64 u,.int .i64 v] 67):=⟨_,rfl⟩;have hf1:Fr Non w W1:=by rw[HW1];exact(Zf w).alloc _
 have hb1:=Zh (show W1.heap[w.heap.size]? =some (.cells #[.int .i64 u,.int .i64 v] 67 (0,0)) by rw[HW1];exact blk_new _ _ _);have F1:=Zh hf1;have C1:=Zh (hf1.cell' HC.out (non _));clear hf1;have x1:=ext_cell ((Zc hb1.out).1 1 _ rfl);have x0:=ext_cell ((Zc hb1.out).1 0 _ rfl);have hsv:=fmtM_size tb v h3;have hsu:=fmtM_size tb u h2;have E1:=Zh (fun x=>errnoE_any v h3 tb (ext W1 x) (ext_cell C1.out x));have I1:=Zh (fun x=>itoa_any u h2 tb (ext W1 x) (ext_cell C1.out x));have hs1:(errB++fmtM tb v).size≤9:=by rw[ByteArray.size_append,show errB.size=6 from rfl];omega
 generalize errB++fmtM tb v=S1 at E1 hs1 ⊢;generalize fmtM tb u=S2 at I1 hsu ⊢;have hz1:¬(9223372036854775807<S1.size+4):=by omega
 have hz2:¬(9223372036854775807<S1.size+4+S2.size):=by omega
 clear hsu hsv hs1;go_enter Tryz.func190,Tryz.ntmps190;go_wp2_with fail;rw[←HW1];clear HW1;go_wp2_with fail;refine wp_region_ext (by kernel_rfl) (by kernel_rfl) ?_
 repeat (go_big_quiet_step (fail))
 go_big_quiet_want;go_big_quiet_op;apply Exists.intro;refine⟨fun x=>?_,?_⟩
 ·exact calls_ext (E1.out x)
 go_big_quiet_on
 repeat (go_big_quiet_step (fail))
 go_big_quiet_want;go_big_quiet_op;apply Exists.intro;refine⟨fun x=>?_,?_⟩
 ·exact calls_ext (I1.out x)
 go_big_quiet_on
 repeat (go_big_quiet_step (fail))
 refine wpQuiet_nil ?_;intro w3 hf3;have F3:=Zh (F1.out.trans hf3);clear hf3;go_wp2_with fail;go_ret;exact⟨rfl,F3.out⟩
theorem alike_any (r:Int×Int) (h0:0≤r.1) (h1:r.1<512) (h2:0≤r.2) (h3:r.2<512) (tb:Int) (w:World) (hc:w.cell? ⟨1,2,none⟩=some (.int .u64 tb)):
  Calls Tryz.prog 14 #[errV r,errV r] w fun e w'=>e= .returned (.bool true)∧Fr Non w w':=by
 obtain⟨x,y⟩:=r;simp only at h0 h1 h2 h3;obtain⟨u,rfl⟩:∃u:Nat,x=u:=⟨x.toNat,by omega⟩;obtain⟨v,rfl⟩:∃v:Nat,y=v:=⟨y.toNat,by omega⟩;have HC:=Zh hc;clear hc;unfold errV;by_cases hv:((v:Int))=0
 ·rw[if_pos hv];go_enter Tryz.func14,Tryz.ntmps14;go_wp2_with fail;go_ret;exact⟨rfl,Zf _⟩
 ·rw[if_neg hv];have hE:=fun w hc=>faultE_any u v (by omega) (by omega) tb w hc;have HE:=Zh hE;clear hE hv;have mE:∀(w:World),(Go.method 341 67 (.agg #[.int .i64 u,.int .i64 v]) "Error").run Tryz.prog w= .ok (190,.agg #[.int .i64 u,.int .i64 v]) w:=fun w=>by kernel_rfl
  unfold faultV;go_enter Tryz.func14,Tryz.ntmps14;go_wp2_with fail;refine(HE.out w HC.out).mono ?_;rintro e w1 ⟨rfl,hf1⟩;have C1:=Zh (hf1.cell' HC.out (non _));clear HC;go_wp2_with fail;refine(HE.out w1 C1.out).mono ?_;rintro e w2 ⟨rfl,hf2⟩;have F2:=Zh (hf1.trans hf2);generalize errB++fmtM tb v++atB++fmtM tb u=S;go_wp2_with fail;go_ret;exact⟨by simp,F2.out⟩
theorem exs_sizes_le:∀(l:List Ex),(∀e∈l,e.size≤2000)→Ex.sizes l≤2000*l.length
 |[],_=>by simp[Ex.sizes]
 |e::l,h=>by
  have h1:=h e (by simp);have h2:=exs_sizes_le l fun x hx=>h x (by simp[hx]);simp only[Ex.sizes,List.length_cons];omega
theorem nEx_le (k:UInt8):nEx k≤2:=by unfold nEx;split<;>(try split)<;>(try split)<;>omega
theorem form_lens {k:UInt8} {nm fr:ByteArray} {sec mt:Bool} {ex:List Ex} {args:List ByteArray} {body els:List St} (h:formM (.mk k nm fr sec mt ex args body els)=true):ex.length≤8∧args.length≤8:=by
 rw[form_mk,Bool.and_eq_true] at h;obtain⟨_,hr⟩:=h;split at hr
 ·simp only[callM,Bool.and_eq_true,decide_eq_true_eq] at hr;exact⟨hr.1.1.2,hr.2⟩
 ·simp only[restM,Bool.and_eq_true,beq_iff_eq] at hr;have:=nEx_le k;omega
mutual
theorem nms_le:∀(s:St) (d:Nat),St.ok s d=true→s.light→s.nms≤17000*s.size
 | .mk k nm fr se mt ex args body els,d,hok,hl=>by
   simp only[St.ok,Bool.and_eq_true] at hok;simp only[St.light] at hl;have h1:=form_lens hok.1.1.2;have h2:=exs_sizes_le ex hl.1;have h3:=nmss_le body _ hok.1.2 hl.2.1;have h4:=nmss_le els _ hok.2 hl.2.2;simp only[St.nms,St.size];omega
theorem nmss_le:∀(l:List St) (d:Nat),St.oks l d=true→St.lights l→St.nmss l≤17000*St.sizes l
 |[],_,_,_=>by simp[St.nmss]
 |s::l,d,hok,hl=>by
  simp only[St.oks,Bool.and_eq_true] at hok;simp only[St.lights] at hl;have h1:=nms_le s d hok.1 hl.1;have h2:=nmss_le l d hok.2 hl.2;simp only[St.nmss,St.sizes];omega
end
theorem fnmss_le:∀(P:List Fu),P.all okF=true→(∀f∈P,f.light)→Fu.nmss P≤17000*Fu.sizes P+3000*P.length
 |[],_,_=>by simp[Fu.nmss]
 |f::P,hok,hl=>by
  simp only[List.all_cons,Bool.and_eq_true] at hok;have h1:=fnmss_le P hok.2 fun g hg=>hl g (by simp[hg]);have hf:=hl f (by simp);have hk:=hok.1;unfold okF funM fheadM at hk;simp only[Bool.and_eq_true,decide_eq_true_eq] at hk;have h2:=nmss_le f.body 1 hk.1 hf.1;have h3:=exs_sizes_le f.ret hf.2;have h4:=hk.2.1.1.1.1.2;have h5:=hk.2.1.1.1.2;simp only[Fu.nmss,Fu.nms,Fu.sizes,Fu.size,List.length_cons];omega
theorem nmss_bd (P:List Fu) (hm:mayM P=true) (hl:∀f∈P,f.light):Fu.nmss P≤1099511627776:=by
 unfold mayM at hm;simp only[Bool.and_eq_true,decide_eq_true_eq] at hm;have:=fnmss_le P hm.1 hl;omega
section
def Nm.cl (ru:Int) (x:Nm):Bool:=if ru=2 then !x.sec else if ru=3 then x.lent==0 else !x.gone
mutual
def St.cl (ru:Int):St→Bool
 | .mk k _ _ sec _ _ args body els=>(if ru=2 then !sec else if ru=3 then !(k.toNat==8)&& !(k.toNat==11&&decide (1<args.length)) else !(k.toNat==9))&&(St.cls ru body&&St.cls ru els)
def St.cls (ru:Int):List St→Bool
 |[]=>true
 |s::l=>St.cl ru s&&St.cls ru l
end
def ClA (ru:Int) (l:NL):Prop:=∀p∈l,p.2.cl ru=true
theorem cl_zero (ru:Int):Nm.zero.cl ru=true:=by unfold Nm.cl;split;rfl;split<;>rfl
theorem nget_cl {ru:Int} {l:NL} (h:ClA ru l) (s:ByteArray):(nget l s).cl ru=true:=by
 unfold nget;cases hx:l.find? fun p=>sq p.1 s with
 |none=>exact cl_zero ru
 |some p=>exact h p (List.mem_of_find?_eq_some hx)
theorem nput_cl {ru:Int} {l:NL} (h:ClA ru l) (s:ByteArray) {x:Nm} (hx:x.cl ru=true):ClA ru (nput l s x):=by
 unfold nput;split
 ·intro p hp;obtain⟨q,hq,rfl⟩:=List.mem_map.1 hp;split
  ·exact hx
  ·exact h q hq
 ·intro p hp;rcases List.mem_append.1 hp with hp|hp
  ·exact h p hp
  ·rw[List.mem_singleton] at hp;subst hp;exact hx
theorem ndel_cl {ru:Int} {l:NL} (h:ClA ru l) (s:ByteArray):ClA ru (ndel l s):=fun p hp=>h p (List.mem_filter.1 hp).1
theorem nkeep_cl {ru:Int} {l:NL} (h:ClA ru l) (m:NL):ClA ru (nkeep l m):=fun p hp=>h p (List.mem_filter.1 hp).1
theorem cl_loops {ru:Int} {x:Nm} (h:x.cl ru=true) (l:Int):Nm.cl ru {x with loops:=l}=true:=h
def Nl (ru:Int):Prop:=ru=2∨ru=3∨ru=4
theorem ngone_cl {ru:Int} (hru:Nl ru) {l m:NL} (h:ClA ru l) (hm:ClA ru m):ClA ru (ngone l m):=by
 intro p hp;obtain⟨q,hq,rfl⟩:=List.mem_map.1 hp;have h1:=h q hq;have h2:=nget_cl hm q.1;rcases hru with rfl|rfl|rfl
 ·exact h1
 ·exact h1
 ·have h3:q.2.gone=false:=by simpa[Nm.cl] using h1
  have h4:(nget m q.1).gone=false:=by simpa[Nm.cl] using h2
  simp[Nm.cl,h3,h4]
theorem chk1_cl {ru:Int} (hru:Nl ru) (b:Bool):chk ru 1 b=true:=by unfold chk;rcases hru with rfl|rfl|rfl<;>rfl
theorem chk_of {ru r:Int} {b:Bool} (h:ru=r→b=true):chk ru r b=true:=by
 unfold chk;by_cases e:ru=r
 ·rw[h e,Bool.or_true]
 ·rw[show(r==ru)=false by simp;exact fun x=>e x.symm];rfl
theorem cl_lent {x:Nm} (h:x.cl 3=true):x.lent=0:=by simpa[Nm.cl] using h
theorem cl_gone {x:Nm} (h:x.cl 4=true):x.gone=false:=by simpa[Nm.cl] using h
theorem cl_sec {x:Nm} (h:x.cl 2=true):x.sec=false:=by simpa[Nm.cl] using h
theorem bufOk_cl {ru:Int} (hru:Nl ru) {x:Nm} (h:x.cl ru=true):x.bufOk ru=true:=by
 unfold Nm.bufOk;rw[chk1_cl hru,chk_of (r:=3) (fun e=>by subst e;rw[cl_lent h];rfl),chk_of (r:=4) (fun e=>by subst e;rw[cl_gone h];rfl)];rfl
theorem turnOk_cl {ru:Int} (hru:Nl ru) {x:Nm} (h:x.cl ru=true):x.turnOk ru=true:=by
 unfold Nm.turnOk;rw[bufOk_cl hru h,chk1_cl hru,chk_of (r:=3) (fun e=>by subst e;rw[cl_lent h];rfl)];rfl
theorem getD_f {l:List Bool} (h:∀b∈l,b=false) (i:Nat):l.getD i false=false:=by
 rw[List.getD_eq_getElem?_getD];cases hx:l[i]? with
 |none=>rfl
 |some b=>exact h b (List.mem_of_getElem? hx)
mutual
theorem sv_cl (g:ByteArray→Nm) (hg:∀s,(g s).sec=false):∀e:Ex,Ex.sv g e=false
 | .mk k _ nm _ l=>by
   have hl:=svs_cl g hg l;unfold Ex.sv;split
   ·exact hg _
   ·split
    ·rw[getD_f hl,getD_f hl];rfl
    ·rfl
theorem svs_cl (g:ByteArray→Nm) (hg:∀s,(g s).sec=false):∀l:List Ex,∀b∈Ex.svs g l,b=false
 |[],b,h=>by simp[Ex.svs] at h
 |e::l,b,h=>by
  simp only[Ex.svs,List.mem_cons] at h;rcases h with rfl|h
  ·exact sv_cl g hg e
  ·exact svs_cl g hg l b h
end
mutual
theorem so_cl {ru:Int} (hru:Nl ru) (g:ByteArray→Nm) (hg:∀s,(g s).cl ru=true):∀e:Ex,Ex.so ru g e=true
 | .mk k _ nm o l=>by
   have hl:=sos_cl hru g hg l;have h2:ru=2→∀i,(Ex.svs g l).getD i false=false:=fun h i=>getD_f (svs_cl g (fun s=>cl_sec (by rw[←h];exact hg s)) l) i;unfold Ex.so;split
   ·exact chk1_cl hru _
   ·split
    ·exact bufOk_cl hru (hg _)
    ·split
     ·rw[bufOk_cl hru (hg _),hl,chk_of (r:=2) (fun h=>by rw[h2 h];rfl)];rfl
     ·split
      ·rw[hl,chk_of (r:=2) (fun h=>by rw[h2 h,h2 h];rfl)];rfl
      ·rfl
theorem sos_cl {ru:Int} (hru:Nl ru) (g:ByteArray→Nm) (hg:∀s,(g s).cl ru=true):∀l:List Ex,Ex.sos ru g l=true
 |[]=>by simp[Ex.sos]
 |e::l=>by simp only[Ex.sos];rw[so_cl hru g hg e,sos_cl hru g hg l];rfl
end
theorem ev_if {a:Ev} {ok:Bool} {r:Er Ev} (h:ok=true):a.if ok r=r:=by unfold Ev.if;rw[h,if_pos rfl]
theorem sv2_cl {ru:Int} (hru:Nl ru) {a:Ev} (h:ClA ru a.nm) (e:Ex) (h2:ru=2):Ex.sv a.g e=false:=sv_cl a.g (fun s=>cl_sec (by rw[←h2];exact nget_cl h s)) e
theorem give_cl {ru:Int} (hru:Nl ru) {a:Ev} (h:ClA ru a.nm) (s:ByteArray) {x:Nm} (hx:x.cl ru=true):ClA ru (a.give s x).nm:=nput_cl h s hx
theorem put_cl {ru:Int} (hru:Nl ru) {a:Ev} (h:ClA ru a.nm) (s:ByteArray) {x:Nm} (hx:x.cl ru=true):ClA ru (a.put s x).nm:=nput_cl h s hx
section
variable {ru:Int} (hru:Nl ru)
include hru
theorem gbuf_cl {a:Ev} (h:ClA ru a.nm) (s:ByteArray):(a.g s).bufOk ru=true:=bufOk_cl hru (nget_cl h s)
theorem gturn_cl {a:Ev} (h:ClA ru a.nm) (s:ByteArray):(a.g s).turnOk ru=true:=turnOk_cl hru (nget_cl h s)
theorem gso_cl {a:Ev} (h:ClA ru a.nm) (e:Ex):Ex.so ru a.g e=true:=so_cl hru a.g (fun s=>nget_cl h s) e
theorem into_cl {a:Ev} (h:ClA ru a.nm) (e:Ex) (sec:Bool):a.into ru e sec=true:=by
 unfold Ev.into;rw[gso_cl hru h,chk_of (r:=2) (fun h2=>by rw[sv2_cl hru h e h2];simp)];rfl
theorem num_cl {sec set:Bool} (h:ru=2→sec=false):(Nm.num sec set).cl ru=true:=by
 rcases hru with rfl|rfl|rfl
 ·rw[h rfl];rfl
 ·rfl
 ·rfl
theorem bufv_cl {sec mt own:Bool} (h:ru=2→sec=false):(Nm.bufv sec mt own).cl ru=true:=by
 rcases hru with rfl|rfl|rfl
 ·rw[h rfl];rfl
 ·rfl
 ·rfl
end
theorem callee_cl {P:List Fu} (hP:∀f∈P,f.sec=false∧∀x∈f.params,x.sec=false) (F:Nat) (s:ByteArray):(calleeM P F s).sec=false∧∀x∈(calleeM P F s).params,x.sec=false:=by
 unfold calleeM;cases hx:(P.take F).reverse.find? fun f=>sq f.name s with
 |none=>exact⟨rfl,fun x h=>by simp[Fu.zero] at h⟩
 |some f=>exact hP f (List.mem_of_mem_take (List.mem_reverse.1 (List.mem_of_find?_eq_some hx)))
theorem loopIn_cl {ru:Int} {a:Ev} (h:ClA ru a.nm) (nm:ByteArray):ClA ru (a.loopIn nm).nm:=by
 unfold Ev.loopIn;split
 ·exact h
 ·exact nput_cl h nm (cl_loops (cl_zero ru) _)
theorem block_cl {ru:Int} {P:List Fu} {F:Nat} {l:List St} {a:Ev} (h:∃a1,evStmts ru P F l a= .ok a1∧ClA ru a1.nm):∃a1,evBlock ru P F l a= .ok a1∧ClA ru a1.nm:=by
 obtain⟨a1,e,c⟩:=h;exact⟨a1.with (nkeep a1.nm a.nm),by rw[evBlock,e];rfl,nkeep_cl c _⟩
theorem call_cl {ru:Int} (hru:Nl ru) {f:Fu} (hf:ru=2→∀x∈f.params,x.sec=false) {a:Ev} (h:ClA ru a.nm) (nm:ByteArray) (ex:List Ex) (args:List ByteArray) (h3:ru=3→args.length≤1):a.callOk ru f nm ex args=true:=by
 unfold Ev.callOk;rw[chk1_cl hru,List.all_eq_true.2 (fun j _=>by unfold Ev.exOk;exact into_cl hru h _ _),List.all_eq_true.2 (fun s _=>gbuf_cl hru h s),List.all_eq_true.2]
 ·rfl
 ·intro j _;unfold Ev.bfOk;by_cases hj:args.length≤j
  ·rw[show decide (args.length≤j)=true by simpa using hj];rfl
  ·rw[chk1_cl hru,chk_of (r:=2),chk_of (r:=3)]
   ·simp
   ·intro e;have:=h3 e;have hj0:j=0:=by omega
    obtain⟨s,rfl⟩:∃s,args=[s]:=by
     match args,this,hj with
     |[s],_,_=>exact⟨s,rfl⟩
     |[],_,hj=>exact absurd (Nat.zero_le _) hj
    subst hj0;have hl:(a.g ([s].getD 0 nob)).lent=0:=cl_lent (by rw[←e];exact nget_cl h _);rw[hl];simp[timesM,sq_refl]
   ·intro e;have h1:(a.g (args.getD j nob)).sec=false:=cl_sec (by rw[←e];exact nget_cl h _);have h2:((bufsOf f).getD j Pa.zero).sec=false:=by
     rw[List.getD_eq_getElem?_getD];cases hx:(bufsOf f)[j]? with
     |none=>rfl
     |some x=>exact hf e x (List.mem_filter.1 (List.mem_of_getElem? hx)).1
    rw[h1,h2];rfl
mutual
theorem evStmt_cl {ru:Int} (hru:Nl ru) (P:List Fu) (F:Nat) (hP:ru=2→∀f∈P,f.sec=false∧∀x∈f.params,x.sec=false):∀(s:St) (a:Ev),St.cl ru s=true→ClA ru a.nm→∃a1,evStmt ru P F s a= .ok a1∧ClA ru a1.nm
 | .mk k nm fr sec mt ex args body els,a,hs,ha=>by
   simp only[St.cl,Bool.and_eq_true] at hs;obtain⟨hh,hb,he⟩:=hs;have hsec:ru=2→sec=false:=fun e=>by rw[if_pos e] at hh;simpa using hh
   have h3:ru=3→k.toNat≠8∧(k.toNat=11→args.length≤1):=fun e=>by
    subst e;simp at hh;exact⟨hh.1,fun h=>by have:=hh.2;simp[h] at this;omega⟩
   have h4:ru=4→k.toNat≠9:=fun e=>by subst e;simpa using hh
   by_cases h1:k.toNat=1
   ·exact⟨_,by rw[ev_1 _ _ _ _ _ _ _ _ _ _ _ _ _ h1,ev_if (into_cl hru ha _ _)],give_cl hru ha _ (num_cl hru hsec)⟩
   by_cases h2:k.toNat=2
   ·refine⟨_,by rw[ev_2 _ _ _ _ _ _ _ _ _ _ _ _ _ h2,ev_if];unfold Ev.setOk;rw[gso_cl hru ha,Nm.numOk,chk1_cl hru,chk1_cl hru,chk_of (r:=2) (fun e=>by rw[sv2_cl hru ha _ e];simp)];rfl,ha⟩
   by_cases h3':k.toNat=3
   ·exact⟨_,by rw[ev_3 _ _ _ _ _ _ _ _ _ _ _ _ _ h3',ev_if (into_cl hru ha _ _)],give_cl hru ha _ (bufv_cl hru hsec)⟩
   by_cases h4':k.toNat=4
   ·refine⟨_,by rw[ev_4 _ _ _ _ _ _ _ _ _ _ _ _ _ h4',ev_if];unfold Ev.putOk;rw[into_cl hru ha,gso_cl hru ha,gturn_cl hru ha _,chk_of (r:=2) (fun e=>by rw[sv2_cl hru ha _ e];simp)];rfl,ha⟩
   by_cases h5:k.toNat=5
   ·obtain⟨a1,e1,c1⟩:=block_cl (evStmts_cl hru P F hP body a hb ha);obtain⟨a2,e2,c2⟩:=block_cl (evStmts_cl hru P F hP els (a1.with a.nm) he ha);exact⟨a2.with (ngone a2.nm a1.nm),by rw[ev_5 _ _ _ _ _ _ _ _ _ _ _ _ _ h5,ev_if (into_cl hru ha _ _),e1];simp only[e2],ngone_cl hru c2 c1⟩
   by_cases h67:k.toNat=6∨k.toNat=7
   ·obtain⟨a1,e1,c1⟩:=block_cl (evStmts_cl hru P F hP body (a.loopIn nm) hb (loopIn_cl ha nm));exact⟨_,by rw[ev_67 _ _ _ _ _ _ _ _ _ _ _ _ _ h67,ev_if (into_cl hru ha _ _),e1],ndel_cl c1 nm⟩
   by_cases h8:k.toNat=8
   ·have hg:Nm.cl ru {a.g fr with lent:=if mt then 2 else max (a.g fr).lent 1}=true:=by
     have:=nget_cl ha fr;rcases hru with rfl|rfl|rfl
     ·exact this
     ·exact absurd h8 (h3 rfl).1
     ·exact this
    have hin:ClA ru (a.lendIn nm fr mt).nm:=give_cl hru (put_cl hru ha fr hg) nm (bufv_cl hru fun e=>cl_sec (by rw[←e];exact nget_cl ha fr));obtain⟨a1,e1,c1⟩:=block_cl (evStmts_cl hru P F hP body (a.lendIn nm fr mt) hb hin);refine⟨_,by rw[ev_8 _ _ _ _ _ _ _ _ _ _ _ _ _ h8,ev_if,e1];unfold Ev.lendOk;rw[into_cl hru ha,into_cl hru ha,gbuf_cl hru ha fr,gturn_cl hru ha fr];simp,?_⟩;have c2:=ndel_cl c1 nm;refine nput_cl c2 fr ?_;have:=nget_cl c2 fr;rcases hru with rfl|rfl|rfl
    ·exact this
    ·exact absurd h8 (h3 rfl).1
    ·exact this
   by_cases h9:k.toNat=9
   ·have hg:Nm.cl ru {a.g fr with gone:=true}=true:=by
     have:=nget_cl ha fr;rcases hru with rfl|rfl|rfl
     ·exact this
     ·exact this
     ·exact absurd h9 (h4 rfl)
    refine⟨_,by rw[ev_9 _ _ _ _ _ _ _ _ _ _ _ _ _ h9,ev_if];unfold Ev.moveOk;rw[gbuf_cl hru ha fr,chk1_cl hru,chk_of (r:=3) (fun e=>by rw[cl_lent (x:=a.g fr) (by rw[←e];exact nget_cl ha fr)];rfl),chk_of (r:=4) (fun e=>absurd h9 (h4 e))];rfl,give_cl hru (put_cl hru ha fr hg) nm (bufv_cl hru fun e=>cl_sec (by rw[←e];exact nget_cl ha fr))⟩
   by_cases h10:k.toNat=10
   ·exact⟨_,by rw[ev_10 _ _ _ _ _ _ _ _ _ _ _ _ _ h10,ev_if (gso_cl hru ha _)],give_cl hru ha _ (cl_zero ru)⟩
   by_cases h11:k.toNat=11
   ·refine⟨_,by rw[ev_11 _ _ _ _ _ _ _ _ _ _ _ _ _ h11,ev_if (call_cl hru (fun e=>(callee_cl (hP e) F fr).2) ha _ _ _ (fun e=>(h3 e).2 h11))],?_⟩;split
    ·exact ha
    ·exact give_cl hru ha _ (num_cl hru fun e=>(callee_cl (hP e) F fr).1)
   have hseal:a.sealOk ru P F=true:=by
    unfold Ev.sealOk;rw[chk1_cl hru,List.all_eq_true.2 (fun p hp=>chk_of (r:=2) (fun e=>by rw[cl_sec (x:=p.2) (by rw[←e];exact ha p hp)];simp))];rfl
   by_cases h12:11<k.toNat
   ·exact⟨_,by rw[ev_12 _ _ _ _ _ _ _ _ _ _ _ _ _ h12,ev_if hseal],ha⟩
   ·refine⟨a,?_,ha⟩;unfold evStmt;rw[if_neg h1,if_neg h2,if_neg h3',if_neg h4',if_neg h5,if_neg h67,if_neg h8,if_neg h9,if_neg h10,if_neg h11,ev_if hseal]
theorem evStmts_cl {ru:Int} (hru:Nl ru) (P:List Fu) (F:Nat) (hP:ru=2→∀f∈P,f.sec=false∧∀x∈f.params,x.sec=false):∀(l:List St) (a:Ev),St.cls ru l=true→ClA ru a.nm→∃a1,evStmts ru P F l a= .ok a1∧ClA ru a1.nm
 |[],a,_,ha=>⟨a,by unfold evStmts;rfl,ha⟩
 |x::l,a,hs,ha=>by
  simp only[St.cls,Bool.and_eq_true] at hs;obtain⟨a1,e1,c1⟩:=evStmt_cl hru P F hP x a.next hs.1 ha;obtain⟨a2,e2,c2⟩:=evStmts_cl hru P F hP l a1 hs.2 c1;exact⟨a2,by unfold evStmts;rw[e1];exact e2,c2⟩
end
theorem params_cl {ru:Int} (hru:Nl ru):∀(l:List Pa) (a:Ev),(ru=2→∀x∈l,x.sec=false)→ClA ru a.nm→ClA ru (evParams l a).nm
 |[],_,_,ha=>ha
 |x::l,a,h,ha=>by
  refine params_cl hru l (evParam a x) (fun e y hy=>h e y (List.mem_cons_of_mem _ hy)) (nput_cl ha _ ?_);rcases hru with rfl|rfl|rfl
  ·have:=h rfl x List.mem_cons_self;simp[Nm.cl,this]
  ·rfl
  ·rfl
theorem ev_none {ru:Int} (hru:Nl ru) (P:List Fu) (hP:ru=2→∀f∈P,f.sec=false∧∀x∈f.params,x.sec=false) (hb:∀f∈P,St.cls ru f.body=true):evCheck ru P=(0,0):=by
 have h:∀i,i≤P.length→∃n,evWalk ru P i= .ok n:=by
  intro i
  induction i with
  |zero=>intro _;exact⟨0,rfl⟩
  |succ i ih=>
   intro hi;obtain⟨n,hn⟩:=ih (by omega);have hi':i<P.length:=hi;have hf:P.getD i Fu.zero∈P:=by
    rw[List.getD_eq_getElem?_getD,List.getElem?_eq_getElem hi',Option.getD_some];exact List.getElem_mem hi'
   obtain⟨a1,e1,c1⟩:=evStmts_cl hru P i hP (P.getD i Fu.zero).body (evParams (P.getD i Fu.zero).params ⟨[],n,0⟩) (hb _ hf) (params_cl hru _ _ (fun e=>(hP e _ hf).2) (fun p hp=>by simp at hp));refine⟨a1.n+1+1,?_⟩;rw[evWalk,hn];simp only[evFun,e1];rw[if_pos (List.all_eq_true.2 fun e _=>into_cl hru c1 e _)]
 obtain⟨n,hn⟩:=h P.length (Nat.le_refl _);unfold evCheck;rw[hn]
end
end Go.Proofs.YtgiomfnpkkdknaaGreatDoor
