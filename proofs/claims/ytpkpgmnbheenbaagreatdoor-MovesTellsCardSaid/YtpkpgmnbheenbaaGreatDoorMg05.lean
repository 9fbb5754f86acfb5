/- Contracts and laws, Mg05 -/
import Derived.Test.YtpkpgmnbheenbaaGreatDoorMg01
import Derived.Test.YtpkpgmnbheenbaaGreatDoorMg02
import Derived.Test.YtpkpgmnbheenbaaGreatDoorMg03
import Derived.Test.YtpkpgmnbheenbaaGreatDoorMg04
import Derived.Outline
import Derived.Deep.DeepCutAuto
import Derived.Deep.RegionHeld3
import Derived.Deep.RegionWith
import Derived.IntWalk
namespace Go.Proofs.YtpkpgmnbheenbaaGreatDoor
open Go.RowKit
set_option linter.unusedVariables false
set_option linter.unusedSimpArgs false
set_option maxHeartbeats 8000000
set_option maxRecDepth 100000
theorem ixex_any (K:FuncId) (hK:∀(args:Array Value) (w:World),(callFunc K args).run Tryz.prog w= .ok (.enter K args) w) (cap:Array Value) (p:Ex→Bool) (l:List Ex) (ok:Nat→Prop) (A:Option Addr) (c:Nat) (w:World) (hr:RdRows ok w 5 A 0 (Ex.ds l)) (hc:l.length*64≤reach)
  (hcl:∀(k:Nat) (hk:k<l.length) (A':Option Addr) (c':Nat) (w1:World),Fr Non w w1→l[k].kids.length≤c'→l[k].kids.length*64≤reach→RdRows ok w1 5 A' 0 (Ex.ds l[k].kids)→Calls Tryz.prog K (#[exV l[k].kind l[k].num l[k].name l[k].op A' l[k].kids.length c']++cap) w1 fun e w'=>e= .returned (.bool (p l[k]))∧Fr Non w1 w'):
  Calls Tryz.prog 191 #[.slice A l.length c,.func (.func K) #[] cap] w fun e w'=>(∃i:Int,e= .returned (.int .i64 i)∧decide (0≤i)=l.any p)∧Fr Non w w':=by
 have hlen:l.length≤140737488355328:=by unfold reach at hc;omega
 have HR:=Zh hr;clear hr;have HC:=Zh hcl;clear hcl;go_enter Tryz.func191,Tryz.ntmps191;go_wp2_with fail
 go_loopw [8] (fun i wr=>∃k:Nat,i= .int .i64 k∧k≤l.length∧Fr Non w wr∧∀j,j<k→∀hj:j<l.length,p l[j]=false) (fun i _=>l.length-(intOf i).toNat)
 case atStart=>exact⟨0,rfl,by omega,Zf w,fun j hj=>by omega⟩
 case round=>
  obtain⟨k,rfl,hk,hfr,hno⟩:=hrel;have HN:=Zh hno;clear hno;have hrr:=HR.out.fr hfr (fun _ _=>non _) (fun _ h=>h);have HF:=Zh hfr;clear hfr;by_cases hlt:k<l.length
  ·obtain⟨g,o,A',c',rfl,hd,e0,e1,e2,e3,e4,p1,q1,r1⟩:=at_ex hrr k hlt;have R1:=Zh r1;clear hrr r1;go_wp2_with fail;refine(HC.out k hlt A' c' wr HF.out p1 q1 R1.out).mono ?_;rintro e w2 ⟨rfl,hf2⟩;generalize hp:p l[k]=q;have HP:=Zh hp;clear hp;cases q with
   |true=>
    go_wp2_with fail;go_ret;refine⟨⟨_,rfl,?_⟩,HF.out.trans hf2⟩;rw[any_true_of k hlt HP.out];simp
   |false=>
    go_wp2_with fail;go_roundw
    case rel=>exact⟨k+1,by go_num,by omega,HF.out.trans hf2,till HN.out fun _=>HP.out⟩
    case measure=>simp[intOf];omega
  ·go_wp2_with fail;go_ret;refine⟨⟨_,rfl,?_⟩,HF.out⟩;rw[any_false_of fun j hj=>HN.out j (by omega) hj];rfl
theorem coex_any (K:FuncId) (hK:∀(args:Array Value) (w:World),(callFunc K args).run Tryz.prog w= .ok (.enter K args) w) (cap:Array Value) (p:Ex→Bool) (l:List Ex) (ok:Nat→Prop) (A:Option Addr) (c:Nat) (w:World) (hr:RdRows ok w 5 A 0 (Ex.ds l)) (hc:l.length*64≤reach)
  (hcl:∀(k:Nat) (hk:k<l.length) (A':Option Addr) (c':Nat) (w1:World),Fr Non w w1→l[k].kids.length≤c'→l[k].kids.length*64≤reach→RdRows ok w1 5 A' 0 (Ex.ds l[k].kids)→Calls Tryz.prog K (#[exV l[k].kind l[k].num l[k].name l[k].op A' l[k].kids.length c']++cap) w1 fun e w'=>e= .returned (.bool (p l[k]))∧Fr Non w1 w'):
  Calls Tryz.prog 183 #[.slice A l.length c,.func (.func K) #[] cap] w fun e w'=>e= .returned (.bool (l.any p))∧Fr Non w w':=by
 have h:=ixex_any K hK cap p l ok A c w hr hc hcl;clear hcl hK;have H:=Zh h;clear h;go_enter Tryz.func183,Tryz.ntmps183;go_wp2_with fail;refine H.out.mono ?_;rintro e w2 ⟨⟨i,rfl,hi⟩,hf2⟩;have HI:=Zh hi;clear hi;go_wp2_with fail;go_ret;exact⟨ret_bool HI.out,hf2⟩
theorem enter209:∀(args:Array Value) (w:World),(callFunc 184 args).run Tryz.prog w= .ok (.enter 184 args) w:=fun _ _=>by kernel_rfl
def PMay (N:Nat):Prop:=∀(k:UInt8) (n:UInt64) (nm:ByteArray) (o:UInt8) (l:List Ex) (ok:Nat→Prop) (A:Option Addr) (c deep:Nat) (w:World),Ex.size (.mk k n nm o l)≤N→RdRows ok w 5 A 0 (Ex.ds l)→l.length≤c→l.length*64≤reach→deep≤1000→
 Calls Tryz.prog 174 #[exV k n nm o A l.length c,.int .i64 deep] w fun e w'=>e= .returned (.bool (Ex.may (.mk k n nm o l) deep))∧Fr Non w w'
theorem may1_of (N:Nat) (IH:PMay N) (k:UInt8) (n:UInt64) (nm:ByteArray) (o:UInt8) (l:List Ex) (ok:Nat→Prop) (A:Option Addr) (c deep bd:Nat) (w:World) (hN:Ex.size (.mk k n nm o l)≤N) (hr:RdRows ok w 5 A 0 (Ex.ds l)) (h1:l.length≤c) (h2:l.length*64≤reach) (h3:deep≤40)
  (hd:w.cell? ⟨bd,0,none⟩=some (.int .i64 deep)):
  Calls Tryz.prog 184 #[exV k n nm o A l.length c,.pointer (some ⟨bd,0,none⟩)] w fun e w'=>e= .returned (.bool (!Ex.may (.mk k n nm o l) (deep+1)))∧Fr Non w w':=by
 have hlt:=World.block_lt_of_cell? w _ hd;have h:=IH k n nm o l ok A c (deep+1) (w.alloc (.cells #[vu8 k,vu64 n,.string nm,vu8 o,.slice A l.length c] 48)) hN (hr.fr ((Zf w).alloc _) (fun _ _=>non _) (fun _ h=>h)) h1 h2 (by omega);have H:=Zh h;clear h;have ec:((deep+1:Nat):Int)=(deep:Int)+1:=by omega
 have EC:=Zh ec;clear ec;clear hr;go_enter Tryz.func184,Tryz.ntmps184;go_wp2_with fail;have hh:=H.out;rw[EC.out] at hh;refine hh.mono ?_;rintro e w2 ⟨rfl,hf2⟩;go_wp2_with fail;go_ret;exact⟨rfl,box_fr hf2⟩
theorem sign_some (o:UInt8):emp (signM o)= !(decide (1≤o.toNat∧o.toNat≤14)):=by
 have key:∀n:Fin 256,emp (signM (UInt8.ofNat n.val))= !(decide (1≤n.val∧n.val≤14)):=by decide+kernel
 have:=key ⟨o.toNat,o.toNat_lt⟩;simpa using this
theorem may_mk (k:UInt8) (n:UInt64) (nm:ByteArray) (o:UInt8) (l:List Ex) (d:Nat):Ex.may (.mk k n nm o l) d=(decide (d≤40)&&(if k.toNat=1 then emp nm&&o.toNat==0&&l.length==0
  else if k.toNat=2∨k.toNat=4 then n.toNat==0&&namedM nm&&o.toNat==0&&l.length==0
  else if k.toNat=3 then n.toNat==0&&emp nm&&decide (1≤o.toNat∧o.toNat≤14)&&l.length==2
  else if k.toNat=5 then n.toNat==0&&namedM nm&&o.toNat==0&&l.length==1
  else false)&& !l.any fun x=> !Ex.may x (d+1)):=by
 have h1:shapeM (.mk k n nm o l)=(if k.toNat=1 then emp nm&&o.toNat==0&&l.length==0
  else if k.toNat=2∨k.toNat=4 then n.toNat==0&&namedM nm&&o.toNat==0&&l.length==0
  else if k.toNat=3 then n.toNat==0&&emp nm&& !emp (signM o)&&l.length==2
  else if k.toNat=5 then n.toNat==0&&namedM nm&&o.toNat==0&&l.length==1
  else false):=rfl
 rw[Ex.may,h1,mays_all,sign_some,Bool.not_not];congr 1;rw[Bool.eq_iff_iff];simp
theorem pmay_of (N:Nat) (IH:PMay N):PMay (N+1):=by
 intro k n nm o l ok A c deep w hN hr h1 h2 h3;obtain⟨W0,HW0⟩:∃W0,W0=(w.alloc (.cells #[vu8 k,vu64 n,.string nm,vu8 o,.slice A l.length c] 48)).alloc (.cells #[.int .i64 deep] 3):=⟨_,rfl⟩;have hf0:Fr Non w W0:=by rw[HW0];exact((Zf w).alloc _).alloc _
 have hbe:W0.heap[w.heap.size]? =some (.cells #[vu8 k,vu64 n,.string nm,vu8 o,.slice A l.length c] 48 (0,0)):=by rw[HW0];exact Zb (blk_new _ _ _) ((Zf _).alloc _) (non _)
 have hbd:W0.heap[w.heap.size+1]? =some (.cells #[.int .i64 deep] 3 (0,0)):=by rw[HW0];exact blk_new' (by simp) _ _
 have d0:=(Zc hbd).1 0 _ rfl;have e0:=(Zc hbe).1 0 _ rfl;have e1:=(Zc hbe).1 1 _ rfl;have e2:=(Zc hbe).1 2 _ rfl;have e3:=(Zc hbe).1 3 _ rfl;have e4:=(Zc hbe).1 4 _ rfl;have HD:=Zh hbd;clear hbd;have HE:=Zh hbe;clear hbe;have HR:=Zh (hr.fr hf0 (fun _ _=>non _) (fun _ h=>h));clear hr;have HF0:=Zh hf0;clear hf0;have hlen:l.length≤140737488355328:=by unfold reach at h2;omega
 have hsz:Ex.size (.mk k n nm o l)=1+Ex.sizes l:=rfl;have HM:=Zh (may_mk k n nm o l deep);have hn64:=n.toNat_lt;have ho8:=o.toNat_lt;by_cases hdp:deep≤40
 ·have hdec:decide ((40:Int)<(deep:Int))=false:=by simp;omega
  have hany:Calls Tryz.prog 183 #[.slice A l.length c,.func (.func 184) #[] #[.pointer (some ⟨w.heap.size+1,0,none⟩)]] W0 fun e w'=>e= .returned (.bool (l.any fun x=> !Ex.may x (deep+1)))∧Fr Non W0 w':=by
   refine coex_any _ enter209 _ (fun x=> !Ex.may x (deep+1)) l ok A c W0 HR.out h2 fun j hj A' c' w1 hf1 q1 q2 r1=>?_;have hsj:=size_le l j hj;generalize hx:l[j]=x at*;have:=may1_of N IH x.kind x.num x.name x.op x.kids ok A' c' deep (w.heap.size+1) w1 (by rw[ex_eta];omega) r1 q1 q2 hdp (hf1.cell' d0 (non _));rw[ex_eta] at this;exact this
  have HA:=Zh hany;clear hany;by_cases k1:k.toNat=1
  ·have f1:((k.toNat:Int)==1)=true:=by simp;omega
   have f1':((k.toNat:Int)!=1)=false:=by simp;omega
   have f3:((k.toNat:Int)==3)=false:=by simp;omega
   have hm:Ex.may (.mk k n nm o l) deep=((emp nm&&o.toNat==0&&l.length==0)&& !l.any fun x=> !Ex.may x (deep+1)):=by rw[HM.out,decide_eq_true hdp,if_pos k1];rfl
   have HM1:=Zh hm;clear hm k1 HM;go_enter Tryz.func174,Tryz.ntmps174;go_wp2_with fail;all_goals first
    |(go_ret;refine⟨ret_bool ?_,((Zf w).alloc _).alloc _⟩;rw[HM1.out];(try simp only[toemp] at*);(first|(simp_all [i1,i2];done)|(simp_all [i1,i2];omega)))
    |(rw[←HW0];refine HA.out.mono ?_;rintro e w2 ⟨rfl,hf2⟩;have HF2:=Zh (HF0.out.trans hf2);clear hf2;generalize hq:(l.any fun x=> !Ex.may x (deep+1))=q at*;clear hq;go_wp2_with fail;go_ret;refine⟨ret_bool ?_,HF2.out⟩;rw[HM1.out];(try simp only[toemp] at*);(first|(simp_all [i1,i2];done)|(simp_all [i1,i2];omega)))
  ·by_cases k2:k.toNat=2
   ·have hek:namedM nm=true→emp nm=false:=fun h=>by simp[namedM] at h;exact h.1.1.1.1
    have f1:((k.toNat:Int)==1)=false:=by simp;omega
    have f2:((k.toNat:Int)==2)=true:=by simp;omega
    have f3:((k.toNat:Int)==3)=false:=by simp;omega
    have f1':((k.toNat:Int)!=1)=true:=by simp;omega
    have hm:Ex.may (.mk k n nm o l) deep=((n.toNat==0&&namedM nm&&o.toNat==0&&l.length==0)&& !l.any fun x=> !Ex.may x (deep+1)):=by rw[HM.out,decide_eq_true hdp,if_neg k1,if_pos (.inl k2)];rfl
    have HM1:=Zh hm;clear hm HM;clear k1 k2;go_enter Tryz.func174,Tryz.ntmps174;go_wp2_with (go_at_call 112;refine(pnamed_any nm _).mono ?_;rintro e w1 ⟨rfl,rfl⟩);all_goals first
     |(go_ret;refine⟨ret_bool ?_,((Zf w).alloc _).alloc _⟩;rw[HM1.out];(try simp only[toemp] at*);(first|(simp_all [i1,i2];done)|(simp_all [i1,i2];omega)))
     |(rw[←HW0];refine HA.out.mono ?_;rintro e w2 ⟨rfl,hf2⟩;have HF2:=Zh (HF0.out.trans hf2);clear hf2;generalize hq:(l.any fun x=> !Ex.may x (deep+1))=q at*;clear hq;go_wp2_with fail;go_ret;refine⟨ret_bool ?_,HF2.out⟩;rw[HM1.out];(try simp only[toemp] at*);(first|(simp_all [i1,i2];done)|(simp_all [i1,i2];omega)))
   by_cases k4:k.toNat=4
   ·have hek:namedM nm=true→emp nm=false:=fun h=>by simp[namedM] at h;exact h.1.1.1.1
    have f1:((k.toNat:Int)==1)=false:=by simp;omega
    have f2:((k.toNat:Int)==2)=false:=by simp;omega
    have f4:((k.toNat:Int)==4)=true:=by simp;omega
    have f3:((k.toNat:Int)==3)=false:=by simp;omega
    have f1':((k.toNat:Int)!=1)=true:=by simp;omega
    have hm:Ex.may (.mk k n nm o l) deep=((n.toNat==0&&namedM nm&&o.toNat==0&&l.length==0)&& !l.any fun x=> !Ex.may x (deep+1)):=by rw[HM.out,decide_eq_true hdp,if_neg k1,if_pos (.inr k4)];rfl
    have HM1:=Zh hm;clear hm HM;clear k1 k2 k4;go_enter Tryz.func174,Tryz.ntmps174;go_wp2_with (go_at_call 112;refine(pnamed_any nm _).mono ?_;rintro e w1 ⟨rfl,rfl⟩);all_goals first
     |(go_ret;refine⟨ret_bool ?_,((Zf w).alloc _).alloc _⟩;rw[HM1.out];(try simp only[toemp] at*);(first|(simp_all [i1,i2];done)|(simp_all [i1,i2];omega)))
     |(rw[←HW0];refine HA.out.mono ?_;rintro e w2 ⟨rfl,hf2⟩;have HF2:=Zh (HF0.out.trans hf2);clear hf2;generalize hq:(l.any fun x=> !Ex.may x (deep+1))=q at*;clear hq;go_wp2_with fail;go_ret;refine⟨ret_bool ?_,HF2.out⟩;rw[HM1.out];(try simp only[toemp] at*);(first|(simp_all [i1,i2];done)|(simp_all [i1,i2];omega)))
   by_cases k3:k.toNat=3
   ·have hod:decide ((o.toNat:Int)<1)= !decide (1≤o.toNat):=by rw[Bool.eq_iff_iff];simp<;>omega
    have hod2:decide ((14:Int)<(o.toNat:Int))= !decide (o.toNat≤14):=by rw[Bool.eq_iff_iff];simp<;>omega
    have f1:((k.toNat:Int)==1)=false:=by simp;omega
    have f2:((k.toNat:Int)==2)=false:=by simp;omega
    have f4:((k.toNat:Int)==4)=false:=by simp;omega
    have f5:((k.toNat:Int)==5)=false:=by simp;omega
    have f3:((k.toNat:Int)==3)=true:=by simp;omega
    have f1':((k.toNat:Int)!=1)=true:=by simp;omega
    have hm:Ex.may (.mk k n nm o l) deep=((n.toNat==0&&emp nm&&decide (1≤o.toNat∧o.toNat≤14)&&l.length==2)&& !l.any fun x=> !Ex.may x (deep+1)):=by rw[HM.out,decide_eq_true hdp,if_neg k1,if_neg (by omega),if_pos k3];rfl
    have HM1:=Zh hm;clear hm HM;clear k1 k2 k3 k4;go_enter Tryz.func174,Tryz.ntmps174;go_wp2_with (go_at_call 112;refine(pnamed_any nm _).mono ?_;rintro e w1 ⟨rfl,rfl⟩);all_goals first
     |(go_ret;refine⟨ret_bool ?_,((Zf w).alloc _).alloc _⟩;rw[HM1.out];(try simp only[toemp] at*);(first|(simp_all [i1,i2];done)|(simp_all [i1,i2];omega)))
     |(rw[←HW0];refine HA.out.mono ?_;rintro e w2 ⟨rfl,hf2⟩;have HF2:=Zh (HF0.out.trans hf2);clear hf2;generalize hq:(l.any fun x=> !Ex.may x (deep+1))=q at*;clear hq;go_wp2_with fail;go_ret;refine⟨ret_bool ?_,HF2.out⟩;rw[HM1.out];(try simp only[toemp] at*);(first|(simp_all [i1,i2];done)|(simp_all [i1,i2];omega)))
   by_cases k5:k.toNat=5
   ·have hek:namedM nm=true→emp nm=false:=fun h=>by simp[namedM] at h;exact h.1.1.1.1
    have f1:((k.toNat:Int)==1)=false:=by simp;omega
    have f2:((k.toNat:Int)==2)=false:=by simp;omega
    have f4:((k.toNat:Int)==4)=false:=by simp;omega
    have f5:((k.toNat:Int)==5)=true:=by simp;omega
    have f3:((k.toNat:Int)==3)=false:=by simp;omega
    have f1':((k.toNat:Int)!=1)=true:=by simp;omega
    have hm:Ex.may (.mk k n nm o l) deep=((n.toNat==0&&namedM nm&&o.toNat==0&&l.length==1)&& !l.any fun x=> !Ex.may x (deep+1)):=by rw[HM.out,decide_eq_true hdp,if_neg k1,if_neg (by omega),if_neg k3,if_pos k5];rfl
    have HM1:=Zh hm;clear hm HM;clear k1 k2 k3 k4 k5;go_enter Tryz.func174,Tryz.ntmps174;go_wp2_with (go_at_call 112;refine(pnamed_any nm _).mono ?_;rintro e w1 ⟨rfl,rfl⟩);all_goals first
     |(go_ret;refine⟨ret_bool ?_,((Zf w).alloc _).alloc _⟩;rw[HM1.out];(try simp only[toemp] at*);(first|(simp_all [i1,i2];done)|(simp_all [i1,i2];omega)))
     |(rw[←HW0];refine HA.out.mono ?_;rintro e w2 ⟨rfl,hf2⟩;have HF2:=Zh (HF0.out.trans hf2);clear hf2;generalize hq:(l.any fun x=> !Ex.may x (deep+1))=q at*;clear hq;go_wp2_with fail;go_ret;refine⟨ret_bool ?_,HF2.out⟩;rw[HM1.out];(try simp only[toemp] at*);(first|(simp_all [i1,i2];done)|(simp_all [i1,i2];omega)))
   ·have f1:((k.toNat:Int)==1)=false:=by simp;omega
    have f2:((k.toNat:Int)==2)=false:=by simp;omega
    have f4:((k.toNat:Int)==4)=false:=by simp;omega
    have f5:((k.toNat:Int)==5)=false:=by simp;omega
    have f3:((k.toNat:Int)==3)=false:=by simp;omega
    have hm:Ex.may (.mk k n nm o l) deep=false:=by rw[HM.out,if_neg k1,if_neg (by omega),if_neg k3,if_neg k5];simp
    have HM1:=Zh hm;clear hm HM k1 k2 k3 k4 k5;go_enter Tryz.func174,Tryz.ntmps174;go_wp2_with fail;go_ret;exact⟨ret_bool HM1.out.symm,((Zf w).alloc _).alloc _⟩
 ·have hdec:decide ((40:Int)<(deep:Int))=true:=by simp;omega
  have hm:Ex.may (.mk k n nm o l) deep=false:=by rw[HM.out,decide_eq_false hdp];rfl
  have HM1:=Zh hm;clear hm HM;go_enter Tryz.func174,Tryz.ntmps174;go_wp2_with fail;go_ret;exact⟨ret_bool HM1.out.symm,((Zf w).alloc _).alloc _⟩
theorem pmay_all:∀N,PMay N
 |0=>fun k n nm o l ok A c deep w hN=>by
  have:Ex.size (.mk k n nm o l)=1+Ex.sizes l:=rfl;omega
 |N+1=>pmay_of N (pmay_all N)
theorem pecheck_any (e:Ex) (ok:Nat→Prop) (A:Option Addr) (c:Nat) (w:World) (hr:RdRows ok w 5 A 0 (Ex.ds e.kids)) (h1:e.kids.length≤c) (h2:e.kids.length*64≤reach):
  Calls Tryz.prog 156 #[exV e.kind e.num e.name e.op A e.kids.length c] w fun r w'=>r= .returned (.int .i64 (if Ex.may e 1 then 0 else 2))∧Fr Non w w':=by
 have h:=pmay_all e.size e.kind e.num e.name e.op e.kids ok A c 1 (w.alloc (.cells #[vu8 e.kind,vu64 e.num,.string e.name,vu8 e.op,.slice A e.kids.length c] 48)) (by rw[ex_eta];exact Nat.le_refl _) (hr.fr ((Zf w).alloc _) (fun _ _=>non _) (fun _ h=>h)) h1 h2 (by omega);rw[ex_eta] at h;have H:=Zh h;clear h hr;generalize hq:Ex.may e 1=q at*;clear hq;cases q with
 |true=>
  go_enter Tryz.func156,Tryz.ntmps156;go_wp2_with fail;refine H.out.mono ?_;rintro r w2 ⟨rfl,hf2⟩;go_wp2_with fail;go_ret;exact⟨rfl,box_fr hf2⟩
 |false=>
  go_enter Tryz.func156,Tryz.ntmps156;go_wp2_with fail;refine H.out.mono ?_;rintro r w2 ⟨rfl,hf2⟩;go_wp2_with fail;go_ret;exact⟨rfl,box_fr hf2⟩
section
open Go.MapKept
def MapK (w:World) (b:Nat) (l:List (Int×Value)):Prop:=
 ∃es clock,w.heap[b]? =some (.map es clock)∧es.toList.map (fun e=>(e.key,e.val))=l.map (fun p=>(Value.int .u8 p.1,p.2))∧Stamped es clock
theorem MapK.lt {w:World} {b:Nat} {l:List (Int×Value)} (h:MapK w b l):b<w.heap.size:=by
 obtain⟨es,clock,hb,_⟩:=h;exact(Array.getElem?_eq_some_iff.1 hb).1
theorem MapK.fr {S:Nat→Prop} {w w':World} {b:Nat} {l:List (Int×Value)} (h:MapK w b l) (hf:Fr S w w') (hs:¬S b):MapK w' b l:=by
 have hlt:=h.lt;obtain⟨es,clock,hb,r⟩:=h;exact⟨es,clock,(hf.block b hlt hs).trans hb,r⟩
theorem MapK.new (w:World):MapK (w.alloc (.map #[] 0)) w.heap.size []:=⟨#[],0,(heap_alloc w _).1,rfl,stamped_empty 0⟩
section
variable {l:List (Int×Value)} {es:Array MapEntry} {clock:Nat}
theorem kkeys_of (h:es.toList.map (fun e=>(e.key,e.val))=l.map (fun p=>(Value.int .u8 p.1,p.2))):es.toList.map (·.key)=l.map (fun p=>Value.int .u8 p.1):=by
 have:=congrArg (List.map Prod.fst) h;simpa[List.map_map,Function.comp_def] using this
theorem kiskeys (h:es.toList.map (fun e=>(e.key,e.val))=l.map (fun p=>(Value.int .u8 p.1,p.2))):∀x∈es.toList,IsKey (.int .u8) x.key:=by
 intro x hx;have h1:x.key∈es.toList.map (·.key):=List.mem_map.2 ⟨x,hx,rfl⟩;rw[kkeys_of h] at h1;obtain⟨p,_,e⟩:=List.mem_map.1 h1;rw[←e];rfl
theorem kfind_at {l:List (Int×Value)} {j:Nat} {k:Int} {v:Value} (hn:(l.map (·.1)).Nodup) (h:l[j]? =some (k,v)):(l.find? fun p=>p.1==k)=some (k,v):=by
 induction l generalizing j with
 |nil=>simp at h
 |cons p l ih=>
  cases j with
  |zero=>simp at h;subst h;simp
  |succ j=>
   have hn2:=List.nodup_cons.1 hn;have hne:(p.1==k)=false:=by
    rw[beq_eq_false_iff_ne];intro e;exact hn2.1 (List.mem_map.2 ⟨(k,v),List.mem_of_getElem? (by simpa using h),e.symm⟩)
   rw[List.find?_cons_of_neg (by simp[hne])];exact ih hn2.2 (by simpa using h)
end
variable {P:Program} {w:World} {b:Nat} {l:List (Int×Value)} {t k e:TypeId} {z:Value}
theorem MapK.ins (h:MapK w b l) (ht:P.underlying t=some (.map k e)) (hk:P.underlying k=some (.int .u8)) (n:Int) (v:Value) (hn:∀p∈l,p.1≠n):
  ∃w',(Instr.mapUpdate t (.map (some b)) (.int .u8 n) v).run P w= .ok () w'∧MapK w' b (l++[(n,v)])∧Fr (fun k=>k=b) w w':=by
 have hlt:=h.lt;obtain⟨es,clock,hb,hl,hs⟩:=h;rcases findNow_spec (d:=.int .u8) (k:=.int .u8 n) rfl es.toList 0 (kiskeys hl) with⟨h1,h2⟩|⟨j,e0,h1,h2,h3⟩
 ·refine⟨_,?_,⟨_,_,(heap_set hb).1,?_,stamped_push hs h2⟩,fr_setBlock (.map (es.push ⟨.int .u8 n,v,clock⟩) (clock+1)) hlt⟩
  ·simp[Instr.mapUpdate,run_underlying ht,Go.MapKept.run_getObj_map hb,Go.MapKept.run_checkKey (k:=.int .u8 n) hk rfl,Go.MapKept.run_findKey hk h1,Go.MapKept.run_setObj_map _ hb,Result.andThen]
  ·simp[hl]
 ·exfalso;have h5:e0.key∈es.toList.map (·.key):=List.mem_map.2 ⟨e0,List.mem_of_getElem? h2,rfl⟩;rw[kkeys_of hl,h3] at h5;obtain⟨p,hp,e⟩:=List.mem_map.1 h5;cases e;exact hn p hp rfl
theorem MapK.look (h:MapK w b l) (ht:P.underlying t=some (.map k e)) (hk:P.underlying k=some (.int .u8)) (hz:∀w,(zeroValue e).run P w= .ok z w) (n:Int):
  (Instr.lookup t (.map (some b)) (.int .u8 n) true).run P w= .ok (.tuple #[((l.find? fun p=>p.1==n).map (·.2)).getD z,.bool (l.find? fun p=>p.1==n).isSome]) w∧
  (Instr.lookup t (.map (some b)) (.int .u8 n) false).run P w= .ok (((l.find? fun p=>p.1==n).map (·.2)).getD z) w:=by
 obtain⟨es,clock,hb,hl,hs⟩:=h;rcases findNow_spec (d:=.int .u8) (k:=.int .u8 n) rfl es.toList 0 (kiskeys hl) with⟨h1,h2⟩|⟨j,e0,h1,h2,h3⟩
 ·have hf:(l.find? fun p=>p.1==n)=none:=by
   rw[List.find?_eq_none];intro p hp hq;have h5:Value.int .u8 p.1∈es.toList.map (·.key):=by rw[kkeys_of hl];exact List.mem_map.2 ⟨p,hp,rfl⟩
   obtain⟨x,hx,e⟩:=List.mem_map.1 h5;exact h2 x hx (by rw[e,beq_iff_eq.1 hq])
  rw[hf];constructor<;>simp[Instr.lookup,run_underlying ht,Go.MapKept.run_getObj_map hb,Go.MapKept.run_checkKey (k:=.int .u8 n) hk rfl,Go.MapKept.run_findKey hk h1,hz,Result.andThen]
 ·have hx:(es.toList.map (fun e=>(e.key,e.val)))[j]? =some (e0.key,e0.val):=by rw[List.getElem?_map,h2];rfl
  rw[hl,List.getElem?_map,h3] at hx;have hlj:l[j]? =some (n,e0.val):=by
   cases hlj:l[j]? with
   |none=>rw[hlj] at hx;cases hx
   |some p=>
    rw[hlj] at hx;simp only[Option.map_some,Option.some.injEq,Prod.mk.injEq,Value.int.injEq,true_and] at hx;rw[←hx.1,←hx.2]
  have hnd:(l.map (·.1)).Nodup:=by
   have h1:=hs.2.2;rw[kkeys_of hl] at h1;have h2:l.map (fun p=>Value.int .u8 p.1)=(l.map (·.1)).map (Value.int .u8):=by simp[List.map_map]
   rw[h2] at h1;exact List.Pairwise.imp (fun hne e=>hne (by rw[e])) (List.pairwise_map.1 h1)
  rw[kfind_at hnd hlj];have h1':Instr.findNow (.int .u8) (.int .u8 n) es.toList 0=some (some (j,e0.val)):=by simpa using h1
  constructor<;>simp[Instr.lookup,run_underlying ht,Go.MapKept.run_getObj_map hb,Go.MapKept.run_checkKey (k:=.int .u8 n) hk rfl,Go.MapKept.run_findKey hk h1',Result.andThen]
end
def kindsL:List (Int×Value):=[(1,.agg #[.int .i64 1,.bool true,.bool false,.bool true,.bool false,.bool false,.bool false]),(3,.agg #[.int .i64 1,.bool true,.bool false,.bool true,.bool false,.bool false,.bool false]),(2,.agg #[.int .i64 1,.bool true,.bool false,.bool false,.bool false,.bool false,.bool false]),(10,.agg #[.int .i64 1,.bool true,.bool false,.bool false,.bool false,.bool false,.bool false]),(4,.agg #[.int .i64 2,.bool true,.bool false,.bool false,.bool false,.bool false,.bool false]),(5,.agg #[.int .i64 1,.bool false,.bool false,.bool false,.bool false,.bool true,.bool true]),(6,.agg #[.int .i64 1,.bool false,.bool false,.bool false,.bool false,.bool true,.bool false]),(7,.agg #[.int .i64 1,.bool true,.bool false,.bool false,.bool false,.bool true,.bool false]),(8,.agg #[.int .i64 2,.bool true,.bool true,.bool false,.bool true,.bool true,.bool false]),(9,.agg #[.int .i64 0,.bool true,.bool true,.bool false,.bool false,.bool false,.bool false]),(11,.agg #[.int .i64 0,.bool false,.bool true,.bool false,.bool false,.bool false,.bool false]),(12,.agg #[.int .i64 0,.bool false,.bool false,.bool false,.bool false,.bool false,.bool false])]
theorem und221:Tryz.prog.underlying 210=some (.map 5 208):=by kernel_rfl
theorem undU8:Tryz.prog.underlying 5=some (.int .u8):=by kernel_rfl
def needZ:Value:=.agg #[.int .i64 0,.bool false,.bool false,.bool false,.bool false,.bool false,.bool false]
theorem zeroN (w:World):(zeroValue 208).run Tryz.prog w= .ok needZ w:=by kernel_rfl
theorem pkinds_any (w:World):Calls Tryz.prog 175 #[] w fun e w'=>e= .returned (.map (some w.heap.size))∧MapK w' w.heap.size kindsL∧Fr Non w w':=by
 have hmm:=@run_makeMap Tryz.prog;have hm0:=MapK.new w;have hf0:=(Fr.refl (fun k=>k=w.heap.size) w).alloc (.map #[] 0);obtain⟨w1,hr1,hm1,hg1⟩:=hm0.ins und221 undU8 1 (.agg #[.int .i64 1,.bool true,.bool false,.bool true,.bool false,.bool false,.bool false]) (by simp);have hf1:=hf0.trans hg1;clear hm0 hf0 hg1;obtain⟨w2,hr2,hm2,hg2⟩:=hm1.ins und221 undU8 3 (.agg #[.int .i64 1,.bool true,.bool false,.bool true,.bool false,.bool false,.bool false]) (by simp);have hf2:=hf1.trans hg2;clear hm1 hf1 hg2;obtain⟨w3,hr3,hm3,hg3⟩:=hm2.ins und221 undU8 2 (.agg #[.int .i64 1,.bool true,.bool false,.bool false,.bool false,.bool false,.bool false]) (by simp);have hf3:=hf2.trans hg3;clear hm2 hf2 hg3;obtain⟨w4,hr4,hm4,hg4⟩:=hm3.ins und221 undU8 10 (.agg #[.int .i64 1,.bool true,.bool false,.bool false,.bool false,.bool false,.bool false]) (by simp);have hf4:=hf3.trans hg4;clear hm3 hf3 hg4;obtain⟨w5,hr5,hm5,hg5⟩:=hm4.ins und221 undU8 4 (.agg #[.int .i64 2,.bool true,.bool false,.bool false,.bool false,.bool false,.bool false]) (by simp);have hf5:=hf4.trans hg5;clear hm4 hf4 hg5;obtain⟨w6,hr6,hm6,hg6⟩:=hm5.ins und221 undU8 5 (.agg #[.int .i64 1,.bool false,.bool false,.bool false,.bool false,.bool true,.bool true]) (by simp);have hf6:=hf5.trans hg6;clear hm5 hf5 hg6;obtain⟨w7,hr7,hm7,hg7⟩:=hm6.ins und221 undU8 6 (.agg #[.int .i64 1,.bool false,.bool false,.bool false,.bool false,.bool true,.bool false]) (by simp);have hf7:=hf6.trans hg7;clear hm6 hf6 hg7;obtain⟨w8,hr8,hm8,hg8⟩:=hm7.ins und221 undU8 7 (.agg #[.int .i64 1,.bool true,.bool false,.bool false,.bool false,.bool true,.bool false]) (by simp);have hf8:=hf7.trans hg8;clear hm7 hf7 hg8;obtain⟨w9,hr9,hm9,hg9⟩:=hm8.ins und221 undU8 8 (.agg #[.int .i64 2,.bool true,.bool true,.bool false,.bool true,.bool true,.bool false]) (by simp);have hf9:=hf8.trans hg9;clear hm8 hf8 hg9;obtain⟨w10,hr10,hm10,hg10⟩:=hm9.ins und221 undU8 9 (.agg #[.int .i64 0,.bool true,.bool true,.bool false,.bool false,.bool false,.bool false]) (by simp);have hf10:=hf9.trans hg10;clear hm9 hf9 hg10;obtain⟨w11,hr11,hm11,hg11⟩:=hm10.ins und221 undU8 11 (.agg #[.int .i64 0,.bool false,.bool true,.bool false,.bool false,.bool false,.bool false]) (by simp);have hf11:=hf10.trans hg11;clear hm10 hf10 hg11;obtain⟨w12,hr12,hm12,hg12⟩:=hm11.ins und221 undU8 12 (.agg #[.int .i64 0,.bool false,.bool false,.bool false,.bool false,.bool false,.bool false]) (by simp);have hf12:=hf11.trans hg12;clear hm11 hf11 hg12;have HM:=Zh hm12;have HF:=Zh hf12;clear hm12 hf12;go_enter Tryz.func175,Tryz.ntmps175;go_wp2_with fail;go_ret;exact⟨rfl,HM.out,HF.out.mono fun k hk h=>by have h:k=w.heap.size:=h;omega⟩
def LookR (b:Bool) (e:Ending):Prop:=e=if b then .returned (.tuple #[]) else .panicked [{v:=.iface 156 (.agg #[.nilIface]),recovered:=false}]
theorem LookR.t {e:Ending} (h:LookR true e):e= .returned (.tuple #[]):=h
theorem LookR.f {e:Ending} (h:LookR false e):e= .panicked [{v:=.iface 156 (.agg #[.nilIface]),recovered:=false}]:=h
theorem lookR_t {b:Bool} (h:b=true):LookR b (.returned (.tuple #[])):=by subst h;rfl
theorem lookR_f {b:Bool} (h:b=false):LookR b (.panicked [{v:=.iface 156 (.agg #[.nilIface]),recovered:=false}]):=by subst h;rfl
theorem unless_t (w:World):Calls Tryz.prog 78 #[.bool true] w fun e w'=>e= .returned (.tuple #[])∧w=w':=by
 go_enter Tryz.func78,Tryz.ntmps78;go_wp2_with fail
 go_end0
 exact⟨rfl,rfl⟩
theorem unless_f (w:World):Calls Tryz.prog 78 #[.bool false] w fun e w'=>e= .panicked [{v:=.iface 156 (.agg #[.nilIface]),recovered:=false}]∧w=w':=by
 go_enter Tryz.func78,Tryz.ntmps78;go_wp2_with fail;exact⟨rfl,rfl,rfl⟩
theorem unless_any (b:Bool) (w:World):Calls Tryz.prog 78 #[.bool b] w fun e w'=>LookR b e∧w=w':=by
 cases b
 ·exact unless_f w
 ·exact unless_t w
theorem notnamed_any (s:ByteArray) (w:World):Calls Tryz.prog 177 #[.string s] w fun e w'=>e= .returned (.bool (!namedM s))∧w=w':=by
 go_enter Tryz.func177,Tryz.ntmps177;go_wp2_with fail;refine(pnamed_any _ _).mono ?_;rintro e w1 ⟨rfl,rfl⟩;go_wp2_with fail;go_ret;exact⟨rfl,rfl⟩
theorem enter200:∀(args:Array Value) (w:World),(callFunc 177 args).run Tryz.prog w= .ok (.enter 177 args) w:=fun _ _=>by kernel_rfl
theorem ixstr_any (l:List ByteArray) (ok:Nat→Prop) (A:Option Addr) (c:Nat) (w:World) (hr:RdRows ok w 1 A 0 (l.map strD)) (hc:l.length*16≤reach):
  Calls Tryz.prog 185 #[.slice A l.length c,.func (.func 177) #[] #[]] w fun e w'=>(∃i:Int,e= .returned (.int .i64 i)∧decide (0≤i)= !l.all namedM)∧w=w':=by
 have hlen:l.length≤140737488355328:=by unfold reach at hc;omega
 have HR:=Zh hr;clear hr;have HK:=Zh enter200;go_enter Tryz.func185,Tryz.ntmps185;go_wp2_with fail
 go_loop [8] (fun i=>∃k:Nat,i= .int .i64 k∧k≤l.length∧∀j,j<k→∀hj:j<l.length,namedM l[j]=true) (fun i=>l.length-(intOf i).toNat)
 case atStart=>exact⟨0,rfl,by omega,fun j hj=>by omega⟩
 case round=>
  obtain⟨k,rfl,hk,hno⟩:=hrel;have HN:=Zh hno;clear hno;by_cases hlt:k<l.length
  ·obtain⟨b,o,rfl,hb,h0⟩:=at_str HR.out k hlt;generalize hx:l[k]=x at*;have HX:=Zh hx;clear hx;go_wp2_with fail;refine(notnamed_any x _).mono ?_;rintro e w2 ⟨rfl,rfl⟩;generalize hp:namedM x=q;have HP:=Zh hp;clear hp;cases q with
   |false=>
    go_wp2_with fail;go_ret;refine⟨⟨_,rfl,?_⟩,rfl⟩;rw[all_false_of k hlt (by rw[HX.out];exact HP.out)];simp
   |true=>
    go_wp2_with fail
    go_round
    case rel=>exact⟨k+1,by go_num,by omega,till HN.out fun _=>by rw[HX.out];exact HP.out⟩
    case measure=>simp[intOf];omega
  ·go_wp2_with fail;go_ret;refine⟨⟨_,rfl,?_⟩,rfl⟩;rw[all_true_of fun j hj=>HN.out j (by omega) hj];rfl
theorem costr_any (l:List ByteArray) (ok:Nat→Prop) (A:Option Addr) (c:Nat) (w:World) (hr:RdRows ok w 1 A 0 (l.map strD)) (hc:l.length*16≤reach):
  Calls Tryz.prog 176 #[.slice A l.length c,.func (.func 177) #[] #[]] w fun e w'=>e= .returned (.bool (!l.all namedM))∧w=w':=by
 have h:=ixstr_any l ok A c w hr hc;have H:=Zh h;clear h hr;go_enter Tryz.func176,Tryz.ntmps176;go_wp2_with fail;refine H.out.mono ?_;rintro e w2 ⟨⟨i,rfl,hi⟩,rfl⟩;have HI:=Zh hi;clear hi;go_wp2_with fail;go_ret;exact⟨ret_bool HI.out,rfl⟩
theorem pexprs_any (l:List Ex) (ok:Nat→Prop) (A:Option Addr) (c:Nat) (w:World) (hr:RdRows ok w 5 A 0 (Ex.ds l)) (hc:l.length*64≤reach):
  Calls Tryz.prog 113 #[.slice A l.length c] w fun e w'=>LookR (l.all exM) e∧Fr Non w w':=by
 have hlen:l.length≤140737488355328:=by unfold reach at hc;omega
 have HR:=Zh hr;clear hr;go_enter Tryz.func113,Tryz.ntmps113;go_wp2_with fail
 go_loopw [6] (fun i wr=>∃k:Nat,i= .int .i64 k∧k≤l.length∧Fr Non w wr∧∀j,j<k→∀hj:j<l.length,exM l[j]=true) (fun i _=>l.length-(intOf i).toNat)
 case atStart=>exact⟨0,rfl,by omega,Zf w,fun j hj=>by omega⟩
 case round=>
  obtain⟨k,rfl,hk,hfr,hno⟩:=hrel;have HN:=Zh hno;clear hno;have hrr:=HR.out.fr hfr (fun _ _=>non _) (fun _ h=>h);have HF:=Zh hfr;clear hfr;by_cases hlt:k<l.length
  ·obtain⟨g,o,A',c',rfl,hd,e0,e1,e2,e3,e4,p1,q1,r1⟩:=at_ex hrr k hlt;generalize hx:l[k]=x at*;have HX:=Zh hx;clear hx;have HC:=Zh (pecheck_any x ok A' c' (wr.alloc (.cells #[vu8 x.kind,vu64 x.num,.string x.name,vu8 x.op,.slice A' x.kids.length c'] 48)) (r1.fr ((Zf wr).alloc _) (fun _ _=>non _) fun _ h=>h) p1 q1);clear hrr r1;go_wp2_with fail;refine HC.out.mono ?_;rintro e w2 ⟨rfl,hf2⟩;have HF2:=Zh (HF.out.trans (box_fr hf2));clear hf2;generalize hq:Ex.may x 1=q;have HQ:=Zh hq;clear hq;cases q with
   |true=>
    simp only[if_true];go_wp2_with fail;refine(unless_t _).mono ?_;rintro e w3 ⟨rfl,rfl⟩;go_wp2_with fail;go_roundw
    case rel=>exact⟨k+1,by go_num,by omega,HF2.out,till HN.out fun _=>by rw[HX.out];exact HQ.out⟩
    case measure=>simp[intOf];omega
   |false=>
    simp only[Bool.false_eq_true,if_false];go_wp2_with fail;refine(unless_f _).mono ?_;rintro e w3 ⟨rfl,rfl⟩;go_wp2_with fail;exact⟨rfl,lookR_f (all_false_of k hlt (by rw[HX.out];exact HQ.out)),HF2.out⟩
  ·go_wp2_with fail
   go_end0
   exact⟨lookR_t (all_true_of fun j hj=>HN.out j (by omega) hj),HF.out⟩
def pEx (k:UInt8):Int:=if k.toNat=11 then 0 else nEx k
def pneed (k:UInt8):Value:=.agg #[.int .i64 (pEx k),.bool (nName k),.bool (nFrom k),.bool (nSec k),.bool (nMut k),.bool (nBody k),.bool (nElse k)]
theorem kinds_nat (n:Nat) (hn:n<256):((kindsL.find? fun p=>p.1==(n:Int)).map (·.2)).getD needZ=pneed (UInt8.ofNat n)∧(kindsL.find? fun p=>p.1==(n:Int)).isSome=nIs (UInt8.ofNat n):=by
 have hk:(UInt8.ofNat n).toNat=n:=by simp;omega
 by_cases h:1≤n∧n≤12
 ·obtain⟨h1,h2⟩:=h;rcases(by omega:n=1∨n=2∨n=3∨n=4∨n=5∨n=6∨n=7∨n=8∨n=9∨n=10∨n=11∨n=12) with rfl|rfl|rfl|rfl|rfl|rfl|rfl|rfl|rfl|rfl|rfl|rfl<;>exact⟨rfl,rfl⟩
 ·have hf:(kindsL.find? fun p=>p.1==(n:Int))=none:=by
   rw[List.find?_eq_none];intro p hp;simp only[kindsL,List.mem_cons,List.not_mem_nil,or_false] at hp;rcases hp with rfl|rfl|rfl|rfl|rfl|rfl|rfl|rfl|rfl|rfl|rfl|rfl<;>(simp;omega)
  rw[hf];have e:∀q:Prop,[Decidable q]→¬q→decide q=false:=fun q _ hq=>decide_eq_false hq;constructor
  ·simp only[Option.map_none,Option.getD_none,needZ,pneed,pEx,nEx,nName,nFrom,nSec,nMut,nBody,nElse,hk];rw[if_neg (by omega),if_neg (by omega),if_neg (by omega),if_neg (by omega),e _ (by omega),e _ (by omega),e _ (by omega),e _ (by omega),e _ (by omega),e _ (by omega)]
  ·simp only[Option.isSome_none,nIs,hk];rw[e _ h]
theorem kinds_at (k:UInt8):((kindsL.find? fun p=>p.1==(k.toNat:Int)).map (·.2)).getD needZ=pneed k∧(kindsL.find? fun p=>p.1==(k.toNat:Int)).isSome=nIs k:=by
 have:=kinds_nat k.toNat k.toNat_lt;simpa using this
def lA (s:St):Bool:=nIs s.kind&&(nSec s.kind|| !s.sec)&&(nMut s.kind|| !s.mt)&&(nBody s.kind||s.body.length==0)&&(nElse s.kind||s.els.length==0)
def lB (s:St):Bool:=(nFrom s.kind== !emp s.frm)&&(emp s.frm||namedM s.frm)&&(emp s.name||namedM s.name)
def lC (s:St):Bool:=(s.kind.toNat==11)||((nName s.kind== !emp s.name)&&((s.ex.length:Int)==pEx s.kind)&&(s.args.length==0))
def lD (s:St):Bool:=decide (s.ex.length≤8)&&decide (s.args.length≤8)&&s.args.all namedM
theorem namedX_eq (f:ByteArray) (b:Bool):namedX f b=((b== !emp f)&&(emp f||namedM f)):=by
 have h:namedM f=true→emp f=false:=fun h=>by simp[namedM] at h;exact h.1.1.1.1
 unfold namedX;cases b<;>cases he:emp f<;>cases hn:namedM f<;>simp_all
theorem form_abcd (s:St):formM s=(lA s&&lB s&&lC s&&lD s&&s.ex.all exM):=by
 rw[formM,headM,namedX_eq];by_cases h11:s.kind.toNat=11
 ·rw[if_pos h11,callM,lA,lB,lC,lD];simp only[h11];generalize nIs s.kind=a1;generalize nSec s.kind=a2;generalize nMut s.kind=a3;generalize nBody s.kind=a4;generalize nElse s.kind=a5;generalize (nFrom s.kind== !emp s.frm)=a6;generalize (emp s.frm||namedM s.frm)=a7;generalize (emp s.name||namedM s.name)=a8;generalize (s.body.length==0)=a9;generalize (s.els.length==0)=b1;generalize s.ex.all exM=b2;generalize s.args.all namedM=b3;generalize decide (s.ex.length≤8)=b4;generalize decide (s.args.length≤8)=b5;generalize s.sec=b6;generalize s.mt=b7;clear h11;cases a1<;>cases a6<;>cases a7<;>cases a8<;>cases b2<;>cases b3<;>cases b4<;>cases b5<;>simp[Bool.or_comm]
 ·have hne:nEx s.kind≤8:=by unfold nEx;split<;>(try split)<;>(try split)<;>omega
  have hr:namedX s.name (nName s.kind)=true→(emp s.name||namedM s.name)=true:=fun h=>by
   rw[namedX_eq,Bool.and_eq_true] at h;exact h.2
  rw[if_neg h11,restM,lA,lB,lC,lD,namedX_eq,pEx,if_neg h11];have h11':(s.kind.toNat==11)=false:=by simp[h11]
  rw[h11',Bool.false_or];by_cases h8:(s.ex.length:Int)=nEx s.kind
  ·by_cases h0:s.args.length=0
   ·have hd:decide (s.ex.length≤8)=true:=by simp;omega
    have hargs:s.args=[]:=List.eq_nil_of_length_eq_zero h0;rw[hd,hargs];simp only[h8,beq_self_eq_true,List.length_nil,List.all_nil];generalize nIs s.kind=a1;generalize nSec s.kind=a2;generalize nMut s.kind=a3;generalize nBody s.kind=a4;generalize nElse s.kind=a5;generalize (nFrom s.kind== !emp s.frm)=a6;generalize (emp s.frm||namedM s.frm)=a7;generalize (emp s.name||namedM s.name)=a8;generalize (s.body.length==0)=a9;generalize (s.els.length==0)=b1;generalize s.ex.all exM=b2;generalize (nName s.kind== !emp s.name)=b3;generalize s.sec=b6;generalize s.mt=b7;cases a1<;>cases a6<;>cases a7<;>cases a8<;>cases b2<;>cases b3<;>simp[Bool.or_comm]
   ·have h0':(s.args.length==0)=false:=by simp;exact fun h=>h0 (by simp[h])
    rw[h0'];simp
  ·have h8':((s.ex.length:Int)==nEx s.kind)=false:=by simp[h8]
   rw[h8'];simp
theorem set7 {w2:World} {b:Nat} {T:TypeId} {a0 a1 a2 a3 a4 a5 a6:Value} (hz:w2.heap[b]? =some (.cells #[a0,a1,a2,a3,a4,a5,a6] T (0,0))) (v0 v1 v2 v3 v4 v5 v6:Value):
  (((((((w2.setCell ⟨b,0,none⟩ v0).setCell ⟨b,1,none⟩ v1).setCell ⟨b,2,none⟩ v2).setCell ⟨b,3,none⟩ v3).setCell ⟨b,4,none⟩ v4).setCell ⟨b,5,none⟩ v5).setCell ⟨b,6,none⟩ v6).heap[b]? =some (.cells #[v0,v1,v2,v3,v4,v5,v6] T (0,0)):=by
 have h:=blk_set (blk_set (blk_set (blk_set (blk_set (blk_set (blk_set hz 0 v0) 1 v1) 2 v2) 3 v3) 4 v4) 5 v5) 6 v6;simpa using h
theorem set7_fr {S:Nat→Prop} {W w2:World} {b:Nat} (hf:Fr S W w2) (h:S b∨W.heap.size≤b) (v0 v1 v2 v3 v4 v5 v6:Value):Fr S W (((((((w2.setCell ⟨b,0,none⟩ v0).setCell ⟨b,1,none⟩ v1).setCell ⟨b,2,none⟩ v2).setCell ⟨b,3,none⟩ v3).setCell ⟨b,4,none⟩ v4).setCell ⟨b,5,none⟩ v5).setCell ⟨b,6,none⟩ v6):=
 (((((((hf).setCell _ _ h).setCell _ _ h).setCell _ _ h).setCell _ _ h).setCell _ _ h).setCell _ _ h).setCell _ _ h
theorem LookR.or {b:Bool} {e:Ending} (h:LookR b e):(b=true∧e= .returned (.tuple #[]))∨(b=false∧e= .panicked [{v:=.iface 156 (.agg #[.nilIface]),recovered:=false}]):=by
 cases b
 ·exact .inr ⟨rfl,h⟩
 ·exact .inl ⟨rfl,h⟩
theorem pform_any (s:St) (ok:Nat→Prop) (A1 A2 A3 A4:Option Addr) (c1 c2 c3 c4:Nat) (w:World) (hrd:StRd ok w s A1 A2 A3 A4 c1 c2 c3 c4):
  Calls Tryz.prog 157 #[stV s A1 A2 A3 A4 c1 c2 c3 c4] w fun e w'=>LookR (formM s) e∧Fr Non w w':=by
 obtain⟨W0,HW0⟩:∃W0,W0=w.alloc (.cells #[vu8 s.kind,.string s.name,.string s.frm,.bool s.sec,.bool s.mt,.slice A1 s.ex.length c1,.slice A2 s.args.length c2,.slice A3 s.body.length c3,.slice A4 s.els.length c4] 42):=⟨_,rfl⟩;have hbx:W0.heap[w.heap.size]? =some (.cells #[vu8 s.kind,.string s.name,.string s.frm,.bool s.sec,.bool s.mt,.slice A1 s.ex.length c1,.slice A2 s.args.length c2,.slice A3 s.body.length c3,.slice A4 s.els.length c4] 42 (0,0)):=by rw[HW0];exact blk_new _ _ _
 have hf0:Fr Non w W0:=by rw[HW0];exact(Zf w).alloc _
 have g0:=(Zc hbx).1 0 _ rfl;have hlt0:=blk_lt hbx;have HB0:=Zh hbx;clear hbx;have HRD:=Zh (hrd.fr hf0 fun _ _=>non _);clear hrd;have HF0:=Zh hf0;clear hf0;obtain⟨n0,hn0⟩:∃x,x=nIs s.kind:=⟨_,rfl⟩;obtain⟨nE,hnE⟩:∃x,x=pEx s.kind:=⟨_,rfl⟩;obtain⟨nN,hnN⟩:∃x,x=nName s.kind:=⟨_,rfl⟩;obtain⟨nF,hnF⟩:∃x,x=nFrom s.kind:=⟨_,rfl⟩;obtain⟨nS,hnS⟩:∃x,x=nSec s.kind:=⟨_,rfl⟩;obtain⟨nM,hnM⟩:∃x,x=nMut s.kind:=⟨_,rfl⟩;obtain⟨nB,hnB⟩:∃x,x=nBody s.kind:=⟨_,rfl⟩;obtain⟨nL,hnL⟩:∃x,x=nElse s.kind:=⟨_,rfl⟩;obtain⟨bB,hbB⟩:∃x,x=(s.body.length==0):=⟨_,rfl⟩;obtain⟨bL,hbL⟩:∃x,x=(s.els.length==0):=⟨_,rfl⟩;obtain⟨bA,hbA⟩:∃x,x=(s.args.length==0):=⟨_,rfl⟩;obtain⟨eF,heF⟩:∃x,x=emp s.frm:=⟨_,rfl⟩;obtain⟨eN,heN⟩:∃x,x=emp s.name:=⟨_,rfl⟩;obtain⟨q11,hq11⟩:∃x,x=(s.kind.toNat==11):=⟨_,rfl⟩;have HLA:=Zh (show lA s=(n0&&(nS|| !s.sec)&&(nM|| !s.mt)&&(nB||bB)&&(nL||bL)) by rw[hn0,hnS,hnM,hnB,hnL,hbB,hbL];rfl);have HLB:=Zh (show lB s=((nF== !eF)&&(eF||namedM s.frm)&&(eN||namedM s.name)) by rw[hnF,heF,heN];rfl);have HLC:=Zh (show lC s=(q11||((nN== !eN)&&((s.ex.length:Int)==nE)&&bA)) by rw[hq11,hnN,heN,hnE,hbA];rfl);have HLD:=Zh (show lD s=(decide (s.ex.length≤8)&&decide (s.args.length≤8)&&s.args.all namedM) from rfl);have HFM:=Zh (form_abcd s);have hkl:=fun(w':World) (m:Nat) (h:MapK w' m kindsL)=>(h.look und221 undU8 zeroN (s.kind.toNat:Int)).1;rw[(kinds_at s.kind).1,(kinds_at s.kind).2,pneed,←hn0,←hnE,←hnN,←hnF,←hnS,←hnM,←hnB,←hnL] at hkl;have HKL:=Zh hkl;clear hkl;have f11:((s.kind.toNat:Int)==11)=q11:=by rw[hq11,Bool.eq_iff_iff];simp;omega
 have fB:((s.body.length:Int)==0)=bB:=by rw[hbB,Bool.eq_iff_iff];simp
 have fL:((s.els.length:Int)==0)=bL:=by rw[hbL,Bool.eq_iff_iff];simp
 have fA:((s.args.length:Int)==0)=bA:=by rw[hbA,Bool.eq_iff_iff];simp
 have fF:s.frm.toList.isEmpty=eF:=by rw[heF,toemp]
 have fN:s.name.toList.isEmpty=eN:=by rw[heN,toemp]
 clear hn0 hnE hnN hnF hnS hnM hnB hnL hbB hbL hbA heF heN hq11;have hne0:¬w.heap.size=W0.heap.size:=by omega
 go_enter Tryz.func157,Tryz.ntmps157;go_upto_region 1 with fail;rw[←HW0];clear HW0
 go_cut [2,3] (fun v2 v3 wx=>∃bn,v2= .pointer (some ⟨bn,0,none⟩)∧v3= .bool n0∧wx.heap[bn]? =some (.cells #[.int .i64 nE,.bool nN,.bool nF,.bool nS,.bool nM,.bool nB,.bool nL] 208 (0,0))∧Fr Non W0 wx)
 case first=>
  have hk1:∀W:World,MapK W (World.drew (W0.alloc (.cells #[.int .i64 0,.bool false,.bool false,.bool false,.bool false,.bool false,.bool false] 208))).heap.size kindsL→MapK W (W0.heap.size+1) kindsL:=fun W h=>by
   have e:(World.drew (W0.alloc (.cells #[.int .i64 0,.bool false,.bool false,.bool false,.bool false,.bool false,.bool false] 208))).heap.size=W0.heap.size+1:=by show(W0.heap.push _).size=_;simp
   rw[e] at h;exact h
  have HK1:=Zh hk1;clear hk1
  go_region_with (first|(go_at_call 175;first|(refine(pkinds_any W0.drew).mono ?_;rintro e w2 ⟨rfl,hm2,hf2⟩;have hl1:=HKL.out w2 W0.heap.size hm2;have hl2:=fun o=>HKL.out (w2.alloc o) W0.heap.size (hm2.fr ((Zf w2).alloc o) (non _));have g2:=hf2.cell' g0 (non _);have hz2:W0.heap.size≤w2.heap.size:=hf2.size;have hz3:w.heap.size<w2.heap.size:=by omega)|(refine(pkinds_any (W0.alloc (.cells #[.int .i64 0,.bool false,.bool false,.bool false,.bool false,.bool false,.bool false] 208)).drew).mono ?_;rintro e w2 ⟨rfl,hm2,hf2⟩;have hm3:=HK1.out w2 hm2;have hl1:=HKL.out w2 (W0.heap.size+1) hm3;have g2:=hf2.cell' (((Zf W0).alloc _).cell' g0 (non _)) (non _);have hzb:=Zb (show(World.drew (W0.alloc (.cells #[.int .i64 0,.bool false,.bool false,.bool false,.bool false,.bool false,.bool false] 208))).heap[W0.heap.size]? =some (.cells #[.int .i64 0,.bool false,.bool false,.bool false,.bool false,.bool false,.bool false] 208 (0,0)) from blk_new _ _ _) hf2 (non _);have z0:=(Zc hzb).1 0 _ rfl;have z1:=(Zc hzb).1 1 _ rfl;have z2:=(Zc hzb).1 2 _ rfl;have z3:=(Zc hzb).1 3 _ rfl;have z4:=(Zc hzb).1 4 _ rfl;have z5:=(Zc hzb).1 5 _ rfl;have z6:=(Zc hzb).1 6 _ rfl;have zf:=(Zc hzb).2;have hzb1:=Zh hzb;clear hzb)))
  all_goals
   go_wp2_with fail
   go_meet
   first
    |(have hzz:=hzb1.out;exact⟨W0.heap.size,rfl,rfl,set7 hzz _ _ _ _ _ _ _,set7_fr (((Zf W0).alloc _).drew.trans hf2) (.inr (Nat.le_refl _)) _ _ _ _ _ _ _⟩)
    |exact⟨w2.heap.size,rfl,rfl,blk_new _ _ _,((Zf W0).drew.trans hf2).alloc _⟩
 case rest=>
  obtain⟨bn,rfl,rfl,hbn,hfc⟩:=hcut;have hbx:=Zb HB0.out hfc (non _);have HFC:=Zh (HF0.out.trans hfc);have HRD1:=Zh (HRD.out.fr hfc fun _ _=>non _);clear hfc;have p0:=(Zc hbn).1 0 _ rfl;have p1:=(Zc hbn).1 1 _ rfl;have p2:=(Zc hbn).1 2 _ rfl;have p3:=(Zc hbn).1 3 _ rfl;have p4:=(Zc hbn).1 4 _ rfl;have p5:=(Zc hbn).1 5 _ rfl;have p6:=(Zc hbn).1 6 _ rfl;have s0:=(Zc hbx).1 0 _ rfl;have s1:=(Zc hbx).1 1 _ rfl;have s2:=(Zc hbx).1 2 _ rfl;have s3:=(Zc hbx).1 3 _ rfl;have s4:=(Zc hbx).1 4 _ rfl;have s5:=(Zc hbx).1 5 _ rfl;have s6:=(Zc hbx).1 6 _ rfl;have s7:=(Zc hbx).1 7 _ rfl;have s8:=(Zc hbx).1 8 _ rfl;have hl1:s.body.length≤140737488355328:=by have:=HRD1.out.body.2.1;unfold reach at this;omega
  have hl2:s.els.length≤140737488355328:=by have:=HRD1.out.els.2.1;unfold reach at this;omega
  have hl3:s.ex.length≤140737488355328:=by have:=HRD1.out.ex.2.1;unfold reach at this;omega
  have hl4:s.args.length≤140737488355328:=by have:=HRD1.out.args.2.1;unfold reach at this;omega
  clear hbn hbx g0 hlt0 hne0;generalize hsec:s.sec=sc at*;generalize hmt:s.mt=mt at*;clear hsec hmt;obtain⟨wq,rfl⟩:∃wq:World,wq=wc:=⟨_,rfl⟩;go_upto_region 3 with fail
  go_cut [3,4] (fun v3 v4 wx=>v4= .bool q11∧wx=wq∧lA s=true)
  case first=>
   go_wp2_with fail;all_goals
    refine(unless_any _ _).mono ?_;rintro e w1 ⟨he,rfl⟩;rcases he.or with⟨hb,rfl⟩|⟨hb,rfl⟩
    ·first
      |exact Bool.noConfusion hb
      |(go_wp2_with fail;go_meet;exact⟨rfl,rfl,by rw[HLA.out];clear HLA HFM HFC HRD1 HRD HB0 HF0 HLB HLC HLD HKL p0 p1 p2 p3 p4 p5 p6 s0 s1 s2 s3 s4 s5 s6 s7 s8 f11 fB fL fA fF fN;(try simp only[Bool.not_eq_true] at*);subst_vars;rfl⟩)
    ·first
      |exact Bool.noConfusion hb
      |(go_wp2_with fail;refine⟨rfl,lookR_f ?_,HFC.out⟩;rw[HFM.out,HLA.out];clear HLA HFM HFC HRD1 HRD HB0 HF0 HLB HLC HLD HKL p0 p1 p2 p3 p4 p5 p6 s0 s1 s2 s3 s4 s5 s6 s7 s8 f11 fB fL fA fF fN;(try simp only[Bool.not_eq_true] at*);subst_vars;rfl)
  case rest=>
   obtain⟨rfl,rfl,hLA⟩:=hcut;have HA:=Zh hLA;clear hLA;obtain⟨mF,hmF⟩:∃x,namedM s.frm=x:=⟨_,rfl⟩;obtain⟨mN,hmN⟩:∃x,namedM s.name=x:=⟨_,rfl⟩;obtain⟨bX,hX⟩:∃x,((s.ex.length:Int)==nE)=x:=⟨_,rfl⟩;obtain⟨d1,hd1⟩:∃x,decide ((s.ex.length:Int)≤8)=x:=⟨_,rfl⟩;obtain⟨d2,hd2⟩:∃x,decide ((s.args.length:Int)≤8)=x:=⟨_,rfl⟩;obtain⟨aA,haA⟩:∃x,s.args.all namedM=x:=⟨_,rfl⟩;have HLB:=Zh (show lB s=((nF== !eF)&&(eF||mF)&&(eN||mN)) by rw[←hmF,←hmN];exact HLB.out);have HLC:=Zh (show lC s=(q11||((nN== !eN)&&bX&&bA)) by rw[←hX];exact HLC.out);have HLD:=Zh (show lD s=(d1&&d2&&aA) by
    rw[←hd1,←hd2,←haA,HLD.out];have e1:decide (s.ex.length≤8)=decide ((s.ex.length:Int)≤8):=by rw[Bool.eq_iff_iff];simp;omega
    have e2:decide (s.args.length≤8)=decide ((s.args.length:Int)≤8):=by rw[Bool.eq_iff_iff];simp;omega
    rw[e1,e2])
   have HCO:=Zh (costr_any s.args ok A2 c2 wc HRD1.out.args.2.2 HRD1.out.args.2.1);have HPE:=Zh (pexprs_any s.ex ok A1 c1 wc HRD1.out.ex.2.2 HRD1.out.ex.2.1);go_upto_region 4 with fail
   go_cut [4] (fun v4 wx=>v4= .bool q11∧wx=wc∧lB s=true)
   case first=>
    cases nF<;>cases eF<;>cases eN;all_goals
     go_wp2_with (go_at_call 112;refine(pnamed_any _ _).mono ?_;rintro e w1 ⟨rfl,rfl⟩)
    all_goals
     refine(unless_any _ _).mono ?_;rintro e w1 ⟨he,rfl⟩;rcases he.or with⟨hb,rfl⟩|⟨hb,rfl⟩
     ·first
       |exact Bool.noConfusion hb
       |(go_wp2_with fail;go_meet;exact⟨rfl,rfl,by rw[HLB.out];clear HLA HFM HFC HRD1 HRD HB0 HF0 HLB HLC HLD HKL HCO HPE HA p0 p1 p2 p3 p4 p5 p6 s0 s1 s2 s3 s4 s5 s6 s7 s8 f11 fB fL fA fF fN hmF hmN hX hd1 hd2 haA;(try simp only[Bool.not_eq_true] at*);subst_vars;rfl⟩)
     ·first
       |exact Bool.noConfusion hb
       |(go_wp2_with fail;refine⟨rfl,lookR_f ?_,HFC.out⟩;rw[HFM.out,HA.out,HLB.out];clear HLA HFM HFC HRD1 HRD HB0 HF0 HLB HLC HLD HKL HCO HPE HA p0 p1 p2 p3 p4 p5 p6 s0 s1 s2 s3 s4 s5 s6 s7 s8 f11 fB fL fA fF fN hmF hmN hX hd1 hd2 haA;(try simp only[Bool.not_eq_true] at*);subst_vars;(first|rfl|simp))
   case rest=>
    obtain⟨rfl,rfl,hLB⟩:=hcut;have HB:=Zh hLB;clear hLB;go_upto_region 5 with fail
    go_cut [4] (fun v4 wx=>wx=wc∧lC s=true)
    case first=>
     cases q11<;>cases nN<;>cases eN<;>cases bX;all_goals
      go_wp2_with fail
     all_goals
      refine(unless_any _ _).mono ?_;rintro e w1 ⟨he,rfl⟩;rcases he.or with⟨hb,rfl⟩|⟨hb,rfl⟩
      ·first
        |exact Bool.noConfusion hb
        |(go_wp2_with fail;go_meet;exact⟨rfl,by rw[HLC.out];clear HLA HFM HFC HRD1 HRD HB0 HF0 HLB HLC HLD HKL HCO HPE HA p0 p1 p2 p3 p4 p5 p6 s0 s1 s2 s3 s4 s5 s6 s7 s8 f11 fB fL fA fF fN hmF hmN hX hd1 hd2 haA;(try simp only[Bool.not_eq_true] at*);subst_vars;rfl⟩)
      ·first
        |exact Bool.noConfusion hb
        |(go_wp2_with fail;refine⟨rfl,lookR_f ?_,HFC.out⟩;rw[HFM.out,HA.out,HB.out,HLC.out];clear HLA HFM HFC HRD1 HRD HB0 HF0 HLB HLC HLD HKL HCO HPE HA p0 p1 p2 p3 p4 p5 p6 s0 s1 s2 s3 s4 s5 s6 s7 s8 f11 fB fL fA fF fN hmF hmN hX hd1 hd2 haA;(try simp only[Bool.not_eq_true] at*);subst_vars;(first|rfl|simp))
    case rest=>
     obtain⟨rfl,hLC⟩:=hcut;have HC:=Zh hLC;clear hLC;go_upto_region 6 with fail
     go_cut [4] (fun v4 wx=>wx=wc∧lD s=true)
     case first=>
      cases d1<;>cases d2;all_goals
       go_wp2_with (refine HCO.out.mono ?_;rintro e w1 ⟨rfl,rfl⟩;rw[haA]);cases aA;all_goals (try go_wp2_with fail)
      all_goals
       refine(unless_any _ _).mono ?_;rintro e w1 ⟨he,rfl⟩;rcases he.or with⟨hb,rfl⟩|⟨hb,rfl⟩
       ·first
         |exact Bool.noConfusion hb
         |(go_wp2_with fail;go_meet;exact⟨rfl,by rw[HLD.out];clear HLA HFM HFC HRD1 HRD HB0 HF0 HLB HLC HLD HKL HCO HPE HA p0 p1 p2 p3 p4 p5 p6 s0 s1 s2 s3 s4 s5 s6 s7 s8 f11 fB fL fA fF fN hmF hmN hX hd1 hd2 haA;(try simp only[Bool.not_eq_true] at*);subst_vars;rfl⟩)
       ·first
         |exact Bool.noConfusion hb
         |(go_wp2_with fail;refine⟨rfl,lookR_f ?_,HFC.out⟩;rw[HFM.out,HA.out,HB.out,HC.out,HLD.out];clear HLA HFM HFC HRD1 HRD HB0 HF0 HLB HLC HLD HKL HCO HPE HA p0 p1 p2 p3 p4 p5 p6 s0 s1 s2 s3 s4 s5 s6 s7 s8 f11 fB fL fA fF fN hmF hmN hX hd1 hd2 haA;(try simp only[Bool.not_eq_true] at*);subst_vars;(first|rfl|simp))
     case rest=>
      obtain⟨rfl,hLD⟩:=hcut;have HD:=Zh hLD;clear hLD;go_wp2_with fail;refine HPE.out.mono ?_;rintro e w1 ⟨he,hf⟩;have HF2:=Zh (HFC.out.trans hf);clear hf;rcases he.or with⟨hb,rfl⟩|⟨hb,rfl⟩
      ·have HX:=Zh hb;clear hb;go_wp2_with fail
       go_end0
       exact⟨lookR_t (by rw[HFM.out,HA.out,HB.out,HC.out,HD.out,HX.out];rfl),HF2.out⟩
      ·have HX:=Zh hb;clear hb;go_wp2_with fail;exact⟨rfl,lookR_f (by rw[HFM.out,HX.out];simp),HF2.out⟩
def LookN (b:Bool) (n:Int) (e:Ending):Prop:=e=if b then .returned (.int .i64 n) else .panicked [{v:=.iface 156 (.agg #[.nilIface]),recovered:=false}]
theorem LookN.t {n:Int} {e:Ending} (h:LookN true n e):e= .returned (.int .i64 n):=h
theorem LookN.f {n:Int} {e:Ending} (h:LookN false n e):e= .panicked [{v:=.iface 156 (.agg #[.nilIface]),recovered:=false}]:=h
theorem lookN_t {b:Bool} {m n:Int} (h:b=true) (hn:m=n):LookN b n (.returned (.int .i64 m)):=by subst h;subst hn;rfl
theorem lookN_f {b:Bool} {n:Int} (h:b=false):LookN b n (.panicked [{v:=.iface 156 (.agg #[.nilIface]),recovered:=false}]):=by subst h;rfl
def inner (l:List St):Nat:=(l.map fun s=>St.sizes s.body+St.sizes s.els).sum
theorem inner_snoc (l:List St) (x:St):inner (l++[x])=inner l+(St.sizes x.body+St.sizes x.els):=by simp[inner]
theorem inner_all (l:List St):l.length+inner l=St.sizes l:=by
 induction l with
 |nil=>rfl
 |cons x l ih=>simp only[inner,List.map_cons,List.sum_cons,List.length_cons,St.sizes,St.size_eq] at ih ⊢;omega
theorem inner_take (l:List St) (j:Nat) (h:j<l.length):inner (l.take (j+1))=inner (l.take j)+(St.sizes l[j].body+St.sizes l[j].els):=by
 rw[take_snoc l j h,inner_snoc]
theorem inner_le (l:List St) (j:Nat):inner (l.take j)≤inner l:=by
 induction l generalizing j with
 |nil=>simp[inner]
 |cons x l ih=>
  cases j with
  |zero=>simp[inner]
  |succ j=>have:=ih j;simp only[inner,List.take_succ_cons,List.map_cons,List.sum_cons] at this ⊢;omega
theorem dead_end {A:Prop} (h:A) {w:World} (_:wpAny Tryz.prog .any #[] (fun _ _ _=>True) 0 #[] {tmps:=#[],defers:=[]} w):A:=h
theorem pstmts_any (N:Nat):∀(l:List St) (deep:Nat) (ok:Nat→Prop) (A:Option Addr) (c:Nat) (w:World),St.sizes l<N→St.sizes l≤1099511627776→deep≤41→RdRows ok w 9 A 0 (St.ds l)→l.length*144≤reach→
  Calls Tryz.prog 114 #[.slice A l.length c,.int .i64 (deep:Int)] w fun e w'=>LookN (St.oks l deep) (St.sizes l) e∧Fr Non w w':=by
 induction N with
 |zero=>intro l deep ok A c w hN;omega
 |succ N ih=>
 intro l deep ok A c w hN hN2 hd hr hc;have hlen:l.length≤140737488355328:=by unfold reach at hc;omega
 have IH:=Zh ih;clear ih;have HR:=Zh hr;clear hr;have HC:=Zh hc;clear hc;have HNN:=Zh hN;clear hN;have HIA:=Zh (inner_all l);go_enter Tryz.func114,Tryz.ntmps114;go_wp2_with fail
 go_loopw [5,12] (fun t i wr=>∃j:Nat,i= .int .i64 j∧t= .int .i64 ((l.length+inner (l.take j):Nat):Int)∧j≤l.length∧Fr Non w wr∧∀q,q<j→∀hq:q<l.length,St.ok l[q] deep=true) (fun _ i _=>l.length-(intOf i).toNat)
 case atStart=>exact⟨0,rfl,by simp[inner],by omega,Zf _,fun j hj=>by omega⟩
 case round=>
  obtain⟨j,rfl,rfl,hj,hfr,hno⟩:=hrel;have HN:=Zh hno;clear hno;by_cases hlt:j<l.length
  ·obtain⟨b,o1,A1,c1,A2,c2,A3,c3,A4,c4,rfl,hb,e0,e1,e2,e3,e4,e5,e6,e7,e8,r1,r2,r3,r4⟩:=at_st (HR.out.fr hfr (fun _ _=>non _) (fun _ h=>h)) j hlt;have HSR:=Zh (⟨r1,r2,r3,r4⟩:StRd ok wr l[j] A1 A2 A3 A4 c1 c2 c3 c4);clear r1 r2 r3 r4;have HQ:=Zh (ssize_le l j hlt);have HT:=Zh (inner_take l j hlt);have HT2:=Zh (inner_le l (j+1));have HF:=Zh hfr;clear hfr;generalize hx:l[j]=x at*;have HX:=Zh hx;clear hx;have HE:=Zh (fun(q:Bool) (h:St.ok x deep=q) (hq:q=false)=>oks_false l deep j hlt (show St.ok l[j] deep=false by rw[HX.out,h,hq]));have HEQ:=Zh (St.ok_eq x deep);by_cases hdd:deep≤40
   ·have hdb:decide ((deep:Int)≤40)=true:=by simp;omega
    have hf0:=(Zf wr).alloc (.cells #[vu8 x.kind,.string x.name,.string x.frm,.bool x.sec,.bool x.mt,.slice A1 x.ex.length c1,.slice A2 x.args.length c2,.slice A3 x.body.length c3,.slice A4 x.els.length c4] 42);have HFO:=Zh (pform_any x ok A1 A2 A3 A4 c1 c2 c3 c4 _ (HSR.out.fr hf0 fun _ _=>non _));clear hf0;go_wp2_with fail;refine(unless_t _).mono ?_;rintro e w1 ⟨rfl,rfl⟩;go_wp2_with fail;refine HFO.out.mono ?_;rintro e w2 ⟨he,hf2⟩;have hbz:=Zb (blk_new wr _ _) hf2 (non _);have y7:=(Zc hbz).1 7 _ rfl;have y8:=(Zc hbz).1 8 _ rfl;have HS2:=Zh (HSR.out.fr (box_fr hf2) fun _ _=>non _);have HF2:=Zh (HF.out.trans (box_fr hf2));clear hf2 hbz;clear e0 e1 e2 e3 e4 e5 e6 e7 e8;cases hm:formM x with
    |false=>
     rw[hm] at he;obtain rfl:=he.f;clear he;have HM:=Zh hm;clear hm;go_wp2_with fail;exact⟨rfl,lookN_f (HE.out _ HEQ.out (by rw[HM.out];simp)),HF2.out⟩
    |true=>
     rw[hm] at he;obtain rfl:=he.t;clear he;have HM:=Zh hm;clear hm;have hbod:=fun(w1:World) (hf1:Fr Non w2 w1)=>IH.out x.body (deep+1) ok A3 c3 w1 (by have:=HNN.out;have:=HQ.out;rw[St.size_eq] at this;omega) (by have:=HQ.out;rw[St.size_eq] at this;omega) (by omega) (HS2.out.body.2.2.fr hf1 (fun _ _=>non _) (fun _ h=>h)) HS2.out.body.2.1;have hels:=fun(w1:World) (hf1:Fr Non w2 w1)=>IH.out x.els (deep+1) ok A4 c4 w1 (by have:=HNN.out;have:=HQ.out;rw[St.size_eq] at this;omega) (by have:=HQ.out;rw[St.size_eq] at this;omega) (by omega) (HS2.out.els.2.2.fr hf1 (fun _ _=>non _) (fun _ h=>h)) HS2.out.els.2.1;have HBOD:=Zh hbod;clear hbod;have HELS:=Zh hels;clear hels;have ec:((deep+1:Nat):Int)=(deep:Int)+1:=by omega
     rw[ec] at HBOD HELS;have hs1:l.length+inner (l.take j)+(St.sizes x.body+St.sizes x.els)≤1099511627776:=by have:=HT.out;have:=HT2.out;have:=HIA.out;omega
     have hwr:IntKind.i64.wrap ((deep:Int)+1)=(deep:Int)+1:=IntWalk.i64_in _ (by omega);cases hob:St.oks x.body (deep+1) with
     |false=>
      rw[hob] at HBOD;have HB:=Zh hob;clear hob ec;have HD:=Zh (lookN_f (n:=St.sizes l) (HE.out _ HEQ.out (by rw[HM.out,HB.out];simp)));cases hoe:St.oks x.els (deep+1) with
      |false=>
       rw[hoe] at HELS;clear hoe;go_wp2_with fail
       go_region_with (first|(go_at_call_of 114 A3;refine(HBOD.out w2.drew (Zf w2).drew).mono ?_;rintro e w3 ⟨he,hf3⟩;obtain rfl:=he.f;go_wp2_with fail;refine dead_end (w:=w2) ?_ ?_;exact⟨rfl,HD.out,HF2.out.trans ((Zf w2).drew.trans hf3)⟩)|(go_at_call_of 114 A4;refine(HELS.out w2.drew (Zf w2).drew).mono ?_;rintro e w3 ⟨he,hf3⟩;obtain rfl:=he.f;go_wp2_with fail;refine dead_end (w:=w2) ?_ ?_;exact⟨rfl,HD.out,HF2.out.trans ((Zf w2).drew.trans hf3)⟩))
       all_goals trivial
      |true=>
       rw[hoe] at HELS;clear hoe;go_wp2_with fail
       go_region_with (first|(go_at_call_of 114 A3;refine(HBOD.out w4 ((Zf w2).drew.trans hf4)).mono ?_;rintro e w3 ⟨he,hf3⟩;obtain rfl:=he.f;go_wp2_with fail;refine dead_end (w:=w2) ?_ ?_;exact⟨rfl,HD.out,HF2.out.trans ((Zf w2).drew.trans (hf4.trans hf3))⟩)|(go_at_call_of 114 A3;refine(HBOD.out w2.drew (Zf w2).drew).mono ?_;rintro e w3 ⟨he,hf3⟩;obtain rfl:=he.f;go_wp2_with fail;refine dead_end (w:=w2) ?_ ?_;exact⟨rfl,HD.out,HF2.out.trans ((Zf w2).drew.trans hf3)⟩)|(go_at_call_of 114 A4;refine(HELS.out w2.drew (Zf w2).drew).mono ?_;rintro e w4 ⟨he,hf4⟩;obtain rfl:=he.t;have z7:=((Zf w2).drew.trans hf4).cell' y7 (non _);have z8:=((Zf w2).drew.trans hf4).cell' y8 (non _)))
       all_goals trivial
     |true=>
      cases hoe:St.oks x.els (deep+1) with
      |false=>
       rw[hob] at HBOD;rw[hoe] at HELS;have HD:=Zh (lookN_f (n:=St.sizes l) (HE.out _ HEQ.out (by rw[HM.out,hob,hoe];simp)));clear hob hoe;go_wp2_with fail
       go_region_with (first|(go_at_call_of 114 A4;refine(HELS.out w4 ((Zf w2).drew.trans hf4)).mono ?_;rintro e w3 ⟨he,hf3⟩;obtain rfl:=he.f;go_wp2_with fail;refine dead_end (w:=w2) ?_ ?_;exact⟨rfl,HD.out,HF2.out.trans ((Zf w2).drew.trans (hf4.trans hf3))⟩)|(go_at_call_of 114 A4;refine(HELS.out w2.drew (Zf w2).drew).mono ?_;rintro e w3 ⟨he,hf3⟩;obtain rfl:=he.f;go_wp2_with fail;refine dead_end (w:=w2) ?_ ?_;exact⟨rfl,HD.out,HF2.out.trans ((Zf w2).drew.trans hf3)⟩)|(go_at_call_of 114 A3;refine(HBOD.out w2.drew (Zf w2).drew).mono ?_;rintro e w4 ⟨he,hf4⟩;obtain rfl:=he.t;have z7:=((Zf w2).drew.trans hf4).cell' y7 (non _);have z8:=((Zf w2).drew.trans hf4).cell' y8 (non _)))
       all_goals trivial
      |true=>
       rw[hob] at HBOD;rw[hoe] at HELS;have HB:=Zh hob;clear hob;have HEL:=Zh hoe;clear hoe ec;have x7:=ext_cell y7;have x8:=ext_cell y8;clear y7 y8;go_wp2_with fail;refine wp_region_ext (by kernel_rfl) (by kernel_rfl) ?_
       repeat (go_big_quiet_step (fail))
       go_big_quiet_want;go_big_quiet_op;apply Exists.intro;refine⟨fun y=>?_,?_⟩
       ·exact calls_ext (v:=.int .i64 (St.sizes x.body)) ((HBOD.out _ (ext_fr _ _)).mono fun e w' h=>⟨h.1.t,h.2⟩)
       go_big_quiet_on
       repeat (go_big_quiet_step (fail))
       go_big_quiet_want;go_big_quiet_op;apply Exists.intro;refine⟨fun y=>?_,?_⟩
       ·exact calls_ext (v:=.int .i64 (St.sizes x.els)) ((HELS.out _ (ext_fr _ _)).mono fun e w' h=>⟨h.1.t,h.2⟩)
       go_big_quiet_on
       repeat (go_big_quiet_step (fail))
       refine wpQuiet_nil ?_;intro w3 hf3;clear x7 x8;have HF3:=Zh (HF2.out.trans hf3);clear hf3;go_wp2_with fail;go_roundw
       case rel=>exact⟨j+1,by go_num,by have:=HT.out;have:=hs1;go_num,by omega,HF3.out,till HN.out fun _=>by rw[HX.out,HEQ.out,HM.out,HB.out,HEL.out,decide_eq_true hdd];rfl⟩
       case measure=>simp[intOf];omega
   ·have hdb:decide ((deep:Int)≤40)=false:=by simp;omega
    go_wp2_with fail;refine(unless_f _).mono ?_;rintro e w1 ⟨rfl,rfl⟩;go_wp2_with fail;exact⟨rfl,lookN_f (HE.out _ HEQ.out (by rw[decide_eq_false hdd];simp)),HF.out.trans ((Zf wr).alloc _)⟩
  ·have hje:j=l.length:=by omega
   subst hje;have hok:St.oks l deep=true:=oks_true l deep fun q hq=>HN.out q hq hq;have HO:=Zh hok;clear hok;rw[List.take_length];have hs1:l.length+inner l=St.sizes l:=HIA.out;go_wp2_with fail;go_ret;exact⟨lookN_t HO.out (by rw[←hs1]),hfr⟩
theorem pfunction_any (f:Fu) (ok:Nat→Prop) (A1 A2 A3:Option Addr) (c1 c2 c3:Nat) (w:World) (hs:St.sizes f.body≤1099511627776) (r1:RdRows ok w 4 A1 0 (f.params.map Pa.d)) (q1:f.params.length*24≤reach) (r2:RdRows ok w 9 A2 0 (St.ds f.body)) (q2:f.body.length*144≤reach) (r3:RdRows ok w 5 A3 0 (Ex.ds f.ret)) (q3:f.ret.length*64≤reach):
  Calls Tryz.prog 77 #[.agg #[.string f.name,.slice A1 f.params.length c1,.slice A2 f.body.length c2,.bool f.sec,.slice A3 f.ret.length c3]] w fun e w'=>LookN (okF f) (St.sizes f.body) e∧Fr Non w w':=by
 have hl1:f.params.length≤140737488355328:=by unfold reach at q1;omega
 have hl3:f.ret.length≤140737488355328:=by unfold reach at q3;omega
 have R1:=Zh r1;clear r1;have R2:=Zh r2;clear r2;have R3:=Zh r3;clear r3;have Q3:=Zh q3;clear q1 q3;have Q2:=Zh q2;clear q2;have HS:=Zh hs;clear hs;obtain⟨s,hsec⟩:∃x,f.sec=x:=⟨_,rfl⟩;rw[hsec];have HSEC:=Zh hsec;clear hsec;go_enter Tryz.func77,Tryz.ntmps77;go_upto_region 1 with fail;obtain⟨W1,HW1⟩:∃W1,W1=w.alloc (.cells #[.string f.name,.slice A1 f.params.length c1,.slice A2 f.body.length c2,.bool s,.slice A3 f.ret.length c3] 53):=⟨_,rfl⟩;rw[←HW1];have hbb:W1.heap[w.heap.size]? =some (.cells #[.string f.name,.slice A1 f.params.length c1,.slice A2 f.body.length c2,.bool s,.slice A3 f.ret.length c3] 53 (0,0)):=by rw[HW1];exact blk_new _ _ _
 have hfw:Fr Non w W1:=by rw[HW1];exact(Zf w).alloc _
 clear HW1;have HFW:=Zh hfw;have g0:=(Zc hbb).1 0 _ rfl;have g1:=(Zc hbb).1 1 _ rfl;have g2:=(Zc hbb).1 2 _ rfl;have g3:=(Zc hbb).1 3 _ rfl;have g4:=(Zc hbb).1 4 _ rfl;have HBB:=Zh hbb;clear hbb;have HP1:=Zh (R1.out.fr hfw (fun _ _=>non _) (fun _ h=>h));have HP2:=Zh (R2.out.fr hfw (fun _ _=>non _) (fun _ h=>h));have HP3:=Zh (R3.out.fr hfw (fun _ _=>non _) (fun _ h=>h));clear hfw;obtain⟨m,hm⟩:∃x,namedM f.name=x:=⟨_,rfl⟩;obtain⟨d8,hd8⟩:∃x,decide ((f.params.length:Int)≤8)=x:=⟨_,rfl⟩;obtain⟨d1,hd1⟩:∃x,decide ((f.ret.length:Int)≤1)=x:=⟨_,rfl⟩;obtain⟨b1,hb1⟩:∃x,((f.ret.length:Int)==1)=x:=⟨_,rfl⟩;have HHD:=Zh (show fheadM f=(m&&d8&&d1&&(b1|| !s)&&f.ret.all exM) by
  rw[←hm,←hd8,←hd1,←hb1,←HSEC.out,fheadM];have e1:decide (f.params.length≤8)=decide ((f.params.length:Int)≤8):=by rw[Bool.eq_iff_iff];simp;omega
  have e2:decide (f.ret.length≤1)=decide ((f.ret.length:Int)≤1):=by rw[Bool.eq_iff_iff];simp;omega
  rw[e1,e2];by_cases h1:(f.ret.length:Int)≤1
  ·have e3:(f.ret.length==0)= !((f.ret.length:Int)==1):=by
    by_cases hz:f.ret.length=0
    ·rw[hz];rfl
    ·have:f.ret.length=1:=by omega
     rw[this];rfl
   rw[e3];generalize namedM f.name=a1;generalize decide ((f.params.length:Int)≤8)=a2;generalize decide ((f.ret.length:Int)≤1)=a3;generalize ((f.ret.length:Int)==1)=a4;generalize f.ret.all exM=a5;generalize f.sec=a6;cases a1<;>cases a2<;>cases a3<;>cases a4<;>cases a5<;>cases a6<;>rfl
  ·rw[decide_eq_false h1];simp)
 have HOK:=Zh (show okF f=(St.oks f.body 1&&(fheadM f&&f.params.all parM)) from rfl)
 go_cut [30] (fun v30 wx=>wx=W1∧(m&&d8&&d1&&(b1|| !s))=true)
 case first=>
  cases m<;>cases d8<;>cases d1<;>cases b1<;>cases s;all_goals
   go_wp2_with (go_at_call 112;refine(pnamed_any _ _).mono ?_;rintro e w1 ⟨rfl,rfl⟩;rw[hm])
  all_goals
   refine(unless_any _ _).mono ?_;rintro e w1 ⟨he,rfl⟩;rcases he.or with⟨hb,rfl⟩|⟨hb,rfl⟩
   ·first
     |exact Bool.noConfusion hb
     |(go_wp2_with fail;go_meet;exact⟨rfl,rfl⟩)
   ·first
     |exact Bool.noConfusion hb
     |(go_wp2_with fail;refine⟨rfl,lookN_f ?_,HFW.out⟩;rw[HOK.out,HHD.out];simp)
 case rest=>
  obtain⟨rfl,hH⟩:=hcut;have HH:=Zh hH;clear hH hm hd8 hd1 hb1;have HPX:=Zh (pexprs_any f.ret ok A3 c3 wc HP3.out Q3.out);go_wp2_with fail;refine HPX.out.mono ?_;rintro e w2 ⟨he,hf2⟩;cases ha:f.ret.all exM with
  |false=>
   rw[ha] at he;obtain rfl:=he.f;clear he;have HA:=Zh ha;clear ha;go_wp2_with fail;exact⟨rfl,lookN_f (by rw[HOK.out,HHD.out,HA.out];simp),HFW.out.trans hf2⟩
  |true=>
   rw[ha] at he;obtain rfl:=he.t;clear he;have HA:=Zh ha;clear ha;have HFT:=Zh (show fheadM f=true by rw[HHD.out,HH.out,HA.out];rfl);have h2:=Zb HBB.out hf2 (non _);have k1:=(Zc h2).1 1 _ rfl;have k2:=(Zc h2).1 2 _ rfl;have HB2:=Zh h2;clear h2;clear g0 g1 g2 g3 g4;have HF2:=Zh (HFW.out.trans hf2);clear hf2;go_wp2_with fail
   go_loopw [38] (fun i wr=>∃j:Nat,i= .int .i64 j∧j≤f.params.length∧Fr Non w2 wr∧∀q,q<j→∀hq:q<f.params.length,parM f.params[q]=true) (fun i _=>f.params.length-(intOf i).toNat)
   case atStart=>exact⟨0,rfl,by omega,Zf _,fun j hj=>by omega⟩
   case round=>
    obtain⟨j,rfl,hj,hfr,hno⟩:=hrel;have HN:=Zh hno;clear hno;by_cases hlt:j<f.params.length
    ·obtain⟨b,o1,rfl,hb,e0,e1,e2,e3⟩:=at_pa (R1.out.fr (HF2.out.trans hfr) (fun _ _=>non _) (fun _ h=>h)) j hlt;have HF:=Zh hfr;clear hfr;have HPM:=Zh (show parM f.params[j]=(namedM f.params[j].name&&(!f.params[j].mt||f.params[j].buf)) from rfl);have HAF:=Zh (fun h:parM f.params[j]=false=>all_false_of (p:=parM) j hlt h);generalize hx:f.params[j]=x at*;have HX:=Zh hx;clear hx;obtain⟨nm,bf,sc,mt⟩:=x;simp only at e0 e1 e2 e3 HPM;obtain⟨m2,hm2⟩:∃x,namedM nm=x:=⟨_,rfl⟩;rw[hm2] at HPM;cases m2<;>cases mt<;>cases bf;all_goals
      go_wp2_with (go_at_call 112;refine(pnamed_any _ _).mono ?_;rintro e w1 ⟨rfl,rfl⟩;rw[hm2]);refine(unless_any _ _).mono ?_;rintro e w1 ⟨he,rfl⟩;rcases he.or with⟨hb,rfl⟩|⟨hb,rfl⟩
      ·first
        |exact Bool.noConfusion hb
        |(go_wp2_with fail;go_roundw;(case rel=>exact⟨j+1,by go_num,by omega,HF.out.trans ((Zf _).alloc _),till HN.out fun _=>by rw[HX.out];exact HPM.out⟩);(case measure=>simp[intOf];omega))
      ·first
        |exact Bool.noConfusion hb
        |(go_wp2_with fail;refine⟨rfl,lookN_f ?_,HF2.out.trans (HF.out.trans ((Zf _).alloc _))⟩;rw[HOK.out,HAF.out HPM.out];simp)
    ·have hje:j=f.params.length:=by omega
     subst hje;have HP:=Zh (all_true_of (p:=parM) (l:=f.params) fun q hq=>HN.out q hq hq);have y2:=hfr.cell' k2 (non _);have HST:=Zh (pstmts_any (St.sizes f.body+1) f.body 1 ok A2 c2 wr (by omega) HS.out (by omega) (R2.out.fr (HF2.out.trans hfr) (fun _ _=>non _) (fun _ h=>h)) Q2.out);go_wp2_with fail;refine HST.out.mono ?_;rintro e w3 ⟨he,hf3⟩;cases hob:St.oks f.body 1 with
     |false=>
      rw[hob] at he;obtain rfl:=he.f;clear he;have HB:=Zh hob;clear hob;go_wp2_with fail;exact⟨rfl,lookN_f (by rw[HOK.out,HB.out];rfl),HF2.out.trans (hfr.trans hf3)⟩
     |true=>
      rw[hob] at he;obtain rfl:=he.t;clear he;have HB:=Zh hob;clear hob;go_wp2_with fail;go_ret;exact⟨lookN_t (by rw[HOK.out,HB.out,HFT.out,HP.out];rfl) rfl,HF2.out.trans (hfr.trans hf3)⟩
end Go.Proofs.YtpkpgmnbheenbaaGreatDoor
