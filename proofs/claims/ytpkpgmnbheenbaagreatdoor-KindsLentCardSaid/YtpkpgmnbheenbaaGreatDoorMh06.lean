/- Contracts and laws, Mh06 -/
import Derived.Test.YtpkpgmnbheenbaaGreatDoorMh01
import Derived.Test.YtpkpgmnbheenbaaGreatDoorMh03
import Derived.Test.YtpkpgmnbheenbaaGreatDoorMh04
import Derived.Test.YtpkpgmnbheenbaaGreatDoorMh05
import Derived.Deep.RegionHeld3
import Derived.Outline
import Derived.Deep.RegionWith
import Derived.IntWalk
import Derived.Deep.DeepCutAuto
import Derived.Recover
import Derived.Defers
namespace Go.Proofs.YtpkpgmnbheenbaaGreatDoor
open Go.RowKit
set_option linter.unusedVariables false
set_option linter.unusedSimpArgs false
set_option maxHeartbeats 8000000
set_option maxRecDepth 100000
def pEx (k:UInt8):Int:=if k.toNat=11 then 0 else nEx k
def pneed (k:UInt8):Value:=.agg #[.int .i64 (pEx k),.bool (nName k),.bool (nFrom k),.bool (nSec k),.bool (nMut k),.bool (nBody k),.bool (nElse k)]
theorem kinds_nat (n:Nat) (hn:n<256):((kindsL.find? fun p=>p.1==(n:Int)).map (·.2)).getD needZ=pneed (UInt8.ofNat n)∧(kindsL.find? fun p=>p.1==(n:Int)).isSome=nIs (UInt8.ofNat n):=by
 have hk:(UInt8.ofNat n).toNat=n:=by simp;omega
 by_cases h:1≤n∧n≤12
 ·obtain⟨h1,h2⟩:=h;rcases(by omega:n=1∨n=2∨n=3∨n=4∨n=5∨n=6∨n=7∨n=8∨n=9∨n=10∨n=11∨n=12) with rfl|rfl|rfl|rfl|rfl|rfl|rfl|rfl|rfl|rfl|rfl|rfl<;>exact⟨rfl,rfl⟩
 ·have hf:(kindsL.find? fun p=>p.1==(n:Int))=none:=by
   rw[List.find?_eq_none];intro p hp;simp only[kindsL,List.mem_cons,List.not_mem_nil,or_false] at hp;rcases hp with rfl|rfl|rfl|rfl|rfl|rfl|rfl|rfl|rfl|rfl|rfl|rfl<;>(simp;omega)
  rw[hf];have e:∀q:Prop,[Decidable q]→¬q→decide q=false:=fun q _ hq=>decide_eq_false hq;constructor
  ·simp only[Option.map_none,Option.getD_none,needZ,pneed,pEx,nEx,nName,nFrom,nSec,nMut,nBody,nElse,hk];rw[if_neg (by omega),if_neg (by omega),if_neg (by omega),if_neg (by omega),e _ (by omega),e _ (by omega),e _ (by omega),e _ (by omega),e _ (by omega),e _ (by omega)]
  ·simp only[Option.isSome_none,nIs,hk];rw[e _ h]
theorem kinds_at (k:UInt8):((kindsL.find? fun p=>p.1==(k.toNat:Int)).map (·.2)).getD needZ=pneed k∧(kindsL.find? fun p=>p.1==(k.toNat:Int)).isSome=nIs k:=by
 have:=kinds_nat k.toNat k.toNat_lt;simpa using this
def lA (s:St):Bool:=nIs s.kind&&(nSec s.kind|| !s.sec)&&(nMut s.kind|| !s.mt)&&(nBody s.kind||s.body.length==0)&&(nElse s.kind||s.els.length==0)
def lB (s:St):Bool:=(nFrom s.kind== !emp s.frm)&&(emp s.frm||namedM s.frm)&&(emp s.name||namedM s.name)
def lC (s:St):Bool:=(s.kind.toNat==11)||((nName s.kind== !emp s.name)&&((s.ex.length:Int)==pEx s.kind)&&(s.args.length==0))
def lD (s:St):Bool:=decide (s.ex.length≤8)&&decide (s.args.length≤8)&&s.args.all namedM
theorem namedX_eq (f:ByteArray) (b:Bool):namedX f b=((b== !emp f)&&(emp f||namedM f)):=by
 have h:namedM f=true→emp f=false:=fun h=>by simp[namedM] at h;exact h.1.1.1.1
 unfold namedX;cases b<;>cases he:emp f<;>cases hn:namedM f<;>simp_all
theorem form_abcd (s:St):formM s=(lA s&&lB s&&lC s&&lD s&&s.ex.all exM):=by
 rw[formM,headM,namedX_eq];by_cases h11:s.kind.toNat=11
 ·rw[if_pos h11,callM,lA,lB,lC,lD];simp only[h11];generalize nIs s.kind=a1;generalize nSec s.kind=a2;generalize nMut s.kind=a3;generalize nBody s.kind=a4;generalize nElse s.kind=a5;generalize (nFrom s.kind== !emp s.frm)=a6;generalize (emp s.frm||namedM s.frm)=a7;generalize (emp s.name||namedM s.name)=a8;generalize (s.body.length==0)=a9;generalize (s.els.length==0)=b1;generalize s.ex.all exM=b2;generalize s.args.all namedM=b3;generalize decide (s.ex.length≤8)=b4;generalize decide (s.args.length≤8)=b5;generalize s.sec=b6;generalize s.mt=b7;clear h11;cases a1<;>cases a6<;>cases a7<;>cases a8<;>cases b2<;>cases b3<;>cases b4<;>cases b5<;>simp[Bool.or_comm]
 ·have hne:nEx s.kind≤8:=by unfold nEx;split<;>(try split)<;>(try split)<;>omega
  have hr:namedX s.name (nName s.kind)=true→(emp s.name||namedM s.name)=true:=fun h=>by
   rw[namedX_eq,Bool.and_eq_true] at h;exact h.2
  rw[if_neg h11,restM,lA,lB,lC,lD,namedX_eq,pEx,if_neg h11];have h11':(s.kind.toNat==11)=false:=by simp[h11]
  rw[h11',Bool.false_or];by_cases h8:(s.ex.length:Int)=nEx s.kind
  ·by_cases h0:s.args.length=0
   ·have hd:decide (s.ex.length≤8)=true:=by simp;omega
    have hargs:s.args=[]:=List.eq_nil_of_length_eq_zero h0;rw[hd,hargs];simp only[h8,beq_self_eq_true,List.length_nil,List.all_nil];generalize nIs s.kind=a1;generalize nSec s.kind=a2;generalize nMut s.kind=a3;generalize nBody s.kind=a4;generalize nElse s.kind=a5;generalize (nFrom s.kind== !emp s.frm)=a6;generalize (emp s.frm||namedM s.frm)=a7;generalize (emp s.name||namedM s.name)=a8;generalize (s.body.length==0)=a9;generalize (s.els.length==0)=b1;generalize s.ex.all exM=b2;generalize (nName s.kind== !emp s.name)=b3;generalize s.sec=b6;generalize s.mt=b7;cases a1<;>cases a6<;>cases a7<;>cases a8<;>cases b2<;>cases b3<;>simp[Bool.or_comm]
   ·have h0':(s.args.length==0)=false:=by simp;exact fun h=>h0 (by simp[h])
    rw[h0'];simp
  ·have h8':((s.ex.length:Int)==nEx s.kind)=false:=by simp[h8]
   rw[h8'];simp
theorem set7 {w2:World} {b:Nat} {T:TypeId} {a0 a1 a2 a3 a4 a5 a6:Value} (hz:w2.heap[b]? =some (.cells #[a0,a1,a2,a3,a4,a5,a6] T (0,0))) (v0 v1 v2 v3 v4 v5 v6:Value):
  (((((((w2.setCell ⟨b,0,none⟩ v0).setCell ⟨b,1,none⟩ v1).setCell ⟨b,2,none⟩ v2).setCell ⟨b,3,none⟩ v3).setCell ⟨b,4,none⟩ v4).setCell ⟨b,5,none⟩ v5).setCell ⟨b,6,none⟩ v6).heap[b]? =some (.cells #[v0,v1,v2,v3,v4,v5,v6] T (0,0)):=by
 have h:=blk_set (blk_set (blk_set (blk_set (blk_set (blk_set (blk_set hz 0 v0) 1 v1) 2 v2) 3 v3) 4 v4) 5 v5) 6 v6;simpa using h
theorem set7_fr {S:Nat→Prop} {W w2:World} {b:Nat} (hf:Fr S W w2) (h:S b∨W.heap.size≤b) (v0 v1 v2 v3 v4 v5 v6:Value):Fr S W (((((((w2.setCell ⟨b,0,none⟩ v0).setCell ⟨b,1,none⟩ v1).setCell ⟨b,2,none⟩ v2).setCell ⟨b,3,none⟩ v3).setCell ⟨b,4,none⟩ v4).setCell ⟨b,5,none⟩ v5).setCell ⟨b,6,none⟩ v6):=
 (((((((hf).setCell _ _ h).setCell _ _ h).setCell _ _ h).setCell _ _ h).setCell _ _ h).setCell _ _ h).setCell _ _ h
theorem LookR.or {b:Bool} {e:Ending} (h:LookR b e):(b=true∧e= .returned (.tuple #[]))∨(b=false∧e= .panicked [{v:=.iface 156 (.agg #[.nilIface]),recovered:=false}]):=by
 cases b
 ·exact .inr ⟨rfl,h⟩
 ·exact .inl ⟨rfl,h⟩
theorem pform_any (s:St) (ok:Nat→Prop) (A1 A2 A3 A4:Option Addr) (c1 c2 c3 c4:Nat) (w:World) (hrd:StRd ok w s A1 A2 A3 A4 c1 c2 c3 c4):
  Calls Tryz.prog 157 #[stV s A1 A2 A3 A4 c1 c2 c3 c4] w fun e w'=>LookR (formM s) e∧Fr Non w w':=by
 obtain⟨W0,HW0⟩:∃W0,W0=w.alloc (.cells #[vu8 s.kind,.string s.name,.string s.frm,.bool s.sec,.bool s.mt,.slice A1 s.ex.length c1,.slice A2 s.args.length c2,.slice A3 s.body.length c3,.slice A4 s.els.length c4] 42):=⟨_,rfl⟩;have hbx:W0.heap[w.heap.size]? =some (.cells #[vu8 s.kind,.string s.name,.string s.frm,.bool s.sec,.bool s.mt,.slice A1 s.ex.length c1,.slice A2 s.args.length c2,.slice A3 s.body.length c3,.slice A4 s.els.length c4] 42 (0,0)):=by rw[HW0];exact blk_new _ _ _
 have hf0:Fr Non w W0:=by rw[HW0];exact(Zf w).alloc _
 have g0:=(Zc hbx).1 0 _ rfl;have hlt0:=blk_lt hbx;have HB0:=Zh hbx;clear hbx;have HRD:=Zh (hrd.fr hf0 fun _ _=>non _);clear hrd;have HF0:=Zh hf0;clear hf0;obtain⟨n0,hn0⟩:∃x,x=nIs s.kind:=⟨_,rfl⟩;obtain⟨nE,hnE⟩:∃x,x=pEx s.kind:=⟨_,rfl⟩;obtain⟨nN,hnN⟩:∃x,x=nName s.kind:=⟨_,rfl⟩;obtain⟨nF,hnF⟩:∃x,x=nFrom s.kind:=⟨_,rfl⟩;obtain⟨nS,hnS⟩:∃x,x=nSec s.kind:=⟨_,rfl⟩;obtain⟨nM,hnM⟩:∃x,x=nMut s.kind:=⟨_,rfl⟩;obtain⟨nB,hnB⟩:∃x,x=nBody s.kind:=⟨_,rfl⟩;obtain⟨nL,hnL⟩:∃x,x=nElse s.kind:=⟨_,rfl⟩;obtain⟨bB,hbB⟩:∃x,x=(s.body.length==0):=⟨_,rfl⟩;obtain⟨bL,hbL⟩:∃x,x=(s.els.length==0):=⟨_,rfl⟩;obtain⟨bA,hbA⟩:∃x,x=(s.args.length==0):=⟨_,rfl⟩;obtain⟨eF,heF⟩:∃x,x=emp s.frm:=⟨_,rfl⟩;obtain⟨eN,heN⟩:∃x,x=emp s.name:=⟨_,rfl⟩;obtain⟨q11,hq11⟩:∃x,x=(s.kind.toNat==11):=⟨_,rfl⟩;have HLA:=Zh (show lA s=(n0&&(nS|| !s.sec)&&(nM|| !s.mt)&&(nB||bB)&&(nL||bL)) by rw[hn0,hnS,hnM,hnB,hnL,hbB,hbL];rfl);have HLB:=Zh (show lB s=((nF== !eF)&&(eF||namedM s.frm)&&(eN||namedM s.name)) by rw[hnF,heF,heN];rfl);have HLC:=Zh (show lC s=(q11||((nN== !eN)&&((s.ex.length:Int)==nE)&&bA)) by rw[hq11,hnN,heN,hnE,hbA];rfl);have HLD:=Zh (show lD s=(decide (s.ex.length≤8)&&decide (s.args.length≤8)&&s.args.all namedM) from rfl);have HFM:=Zh (form_abcd s);have hkl:=fun(w':World) (m:Nat) (h:MapK w' m kindsL)=>(h.look und221 undU8 zeroN (s.kind.toNat:Int)).1;rw[(kinds_at s.kind).1,(kinds_at s.kind).2,pneed,←hn0,←hnE,←hnN,←hnF,←hnS,←hnM,←hnB,←hnL] at hkl;have HKL:=Zh hkl;clear hkl;have f11:((s.kind.toNat:Int)==11)=q11:=by rw[hq11,Bool.eq_iff_iff];simp;omega
 have fB:((s.body.length:Int)==0)=bB:=by rw[hbB,Bool.eq_iff_iff];simp
 have fL:((s.els.length:Int)==0)=bL:=by rw[hbL,Bool.eq_iff_iff];simp
 have fA:((s.args.length:Int)==0)=bA:=by rw[hbA,Bool.eq_iff_iff];simp
 have fF:s.frm.toList.isEmpty=eF:=by rw[heF,toemp]
 have fN:s.name.toList.isEmpty=eN:=by rw[heN,toemp]
 clear hn0 hnE hnN hnF hnS hnM hnB hnL hbB hbL hbA heF heN hq11;have hne0:¬w.heap.size=W0.heap.size:=by omega
 go_enter Tryz.func157,Tryz.ntmps157;go_upto_region 1 with fail;rw[←HW0];clear HW0
 go_cut [2,3] (fun v2 v3 wx=>∃bn,v2= .pointer (some ⟨bn,0,none⟩)∧v3= .bool n0∧wx.heap[bn]? =some (.cells #[.int .i64 nE,.bool nN,.bool nF,.bool nS,.bool nM,.bool nB,.bool nL] 208 (0,0))∧Fr Non W0 wx)
 case first=>
  have hk1:∀W:World,MapK W (World.drew (W0.alloc (.cells #[.int .i64 0,.bool false,.bool false,.bool false,.bool false,.bool false,.bool false] 208))).heap.size kindsL→MapK W (W0.heap.size+1) kindsL:=fun W h=>by
   have e:(World.drew (W0.alloc (.cells #[.int .i64 0,.bool false,.bool false,.bool false,.bool false,.bool false,.bool false] 208))).heap.size=W0.heap.size+1:=by show(W0.heap.push _).size=_;simp
   rw[e] at h;exact h
  have HK1:=Zh hk1;clear hk1
  go_region_with (first|(go_at_call 175;first|(refine(pkinds_any W0.drew).mono ?_;rintro e w2 ⟨rfl,hm2,hf2⟩;have hl1:=HKL.out w2 W0.heap.size hm2;have hl2:=fun o=>HKL.out (w2.alloc o) W0.heap.size (hm2.fr ((Zf w2).alloc o) (non _));have g2:=hf2.cell' g0 (non _);have hz2:W0.heap.size≤w2.heap.size:=hf2.size;have hz3:w.heap.size<w2.heap.size:=by omega)|(refine(pkinds_any (W0.alloc (.cells #[.int .i64 0,.bool false,.bool false,.bool false,.bool false,.bool false,.bool false] 208)).drew).mono ?_;rintro e w2 ⟨rfl,hm2,hf2⟩;have hm3:=HK1.out w2 hm2;have hl1:=HKL.out w2 (W0.heap.size+1) hm3;have g2:=hf2.cell' (((Zf W0).alloc _).cell' g0 (non _)) (non _);have hzb:=Zb (show(World.drew (W0.alloc (.cells #[.int .i64 0,.bool false,.bool false,.bool false,.bool false,.bool false,.bool false] 208))).heap[W0.heap.size]? =some (.cells #[.int .i64 0,.bool false,.bool false,.bool false,.bool false,.bool false,.bool false] 208 (0,0)) from blk_new _ _ _) hf2 (non _);have z0:=(Zc hzb).1 0 _ rfl;have z1:=(Zc hzb).1 1 _ rfl;have z2:=(Zc hzb).1 2 _ rfl;have z3:=(Zc hzb).1 3 _ rfl;have z4:=(Zc hzb).1 4 _ rfl;have z5:=(Zc hzb).1 5 _ rfl;have z6:=(Zc hzb).1 6 _ rfl;have zf:=(Zc hzb).2;have hzb1:=Zh hzb;clear hzb)))
  all_goals
   go_wp2_with fail
   go_meet
   first
    |(have hzz:=hzb1.out;exact⟨W0.heap.size,rfl,rfl,set7 hzz _ _ _ _ _ _ _,set7_fr (((Zf W0).alloc _).drew.trans hf2) (.inr (Nat.le_refl _)) _ _ _ _ _ _ _⟩)
    |exact⟨w2.heap.size,rfl,rfl,blk_new _ _ _,((Zf W0).drew.trans hf2).alloc _⟩
 case rest=>
  obtain⟨bn,rfl,rfl,hbn,hfc⟩:=hcut;have hbx:=Zb HB0.out hfc (non _);have HFC:=Zh (HF0.out.trans hfc);have HRD1:=Zh (HRD.out.fr hfc fun _ _=>non _);clear hfc;have p0:=(Zc hbn).1 0 _ rfl;have p1:=(Zc hbn).1 1 _ rfl;have p2:=(Zc hbn).1 2 _ rfl;have p3:=(Zc hbn).1 3 _ rfl;have p4:=(Zc hbn).1 4 _ rfl;have p5:=(Zc hbn).1 5 _ rfl;have p6:=(Zc hbn).1 6 _ rfl;have s0:=(Zc hbx).1 0 _ rfl;have s1:=(Zc hbx).1 1 _ rfl;have s2:=(Zc hbx).1 2 _ rfl;have s3:=(Zc hbx).1 3 _ rfl;have s4:=(Zc hbx).1 4 _ rfl;have s5:=(Zc hbx).1 5 _ rfl;have s6:=(Zc hbx).1 6 _ rfl;have s7:=(Zc hbx).1 7 _ rfl;have s8:=(Zc hbx).1 8 _ rfl;have hl1:s.body.length≤140737488355328:=by have:=HRD1.out.body.2.1;unfold reach at this;omega
  have hl2:s.els.length≤140737488355328:=by have:=HRD1.out.els.2.1;unfold reach at this;omega
  have hl3:s.ex.length≤140737488355328:=by have:=HRD1.out.ex.2.1;unfold reach at this;omega
  have hl4:s.args.length≤140737488355328:=by have:=HRD1.out.args.2.1;unfold reach at this;omega
  clear hbn hbx g0 hlt0 hne0;generalize hsec:s.sec=sc at*;generalize hmt:s.mt=mt at*;clear hsec hmt;obtain⟨wq,rfl⟩:∃wq:World,wq=wc:=⟨_,rfl⟩;go_upto_region 3 with fail
  go_cut [3,4] (fun v3 v4 wx=>v4= .bool q11∧wx=wq∧lA s=true)
  case first=>
   go_wp2_with fail;all_goals
    refine(unless_any _ _).mono ?_;rintro e w1 ⟨he,rfl⟩;rcases he.or with⟨hb,rfl⟩|⟨hb,rfl⟩
    ·first
      |exact Bool.noConfusion hb
      |(go_wp2_with fail;go_meet;exact⟨rfl,rfl,by rw[HLA.out];clear HLA HFM HFC HRD1 HRD HB0 HF0 HLB HLC HLD HKL p0 p1 p2 p3 p4 p5 p6 s0 s1 s2 s3 s4 s5 s6 s7 s8 f11 fB fL fA fF fN;(try simp only[Bool.not_eq_true] at*);subst_vars;rfl⟩)
    ·first
      |exact Bool.noConfusion hb
      |(go_wp2_with fail;refine⟨rfl,lookR_f ?_,HFC.out⟩;rw[HFM.out,HLA.out];clear HLA HFM HFC HRD1 HRD HB0 HF0 HLB HLC HLD HKL p0 p1 p2 p3 p4 p5 p6 s0 s1 s2 s3 s4 s5 s6 s7 s8 f11 fB fL fA fF fN;(try simp only[Bool.not_eq_true] at*);subst_vars;rfl)
  case rest=>
   obtain⟨rfl,rfl,hLA⟩:=hcut;have HA:=Zh hLA;clear hLA;obtain⟨mF,hmF⟩:∃x,namedM s.frm=x:=⟨_,rfl⟩;obtain⟨mN,hmN⟩:∃x,namedM s.name=x:=⟨_,rfl⟩;obtain⟨bX,hX⟩:∃x,((s.ex.length:Int)==nE)=x:=⟨_,rfl⟩;obtain⟨d1,hd1⟩:∃x,decide ((s.ex.length:Int)≤8)=x:=⟨_,rfl⟩;obtain⟨d2,hd2⟩:∃x,decide ((s.args.length:Int)≤8)=x:=⟨_,rfl⟩;obtain⟨aA,haA⟩:∃x,s.args.all namedM=x:=⟨_,rfl⟩;have HLB:=Zh (show lB s=((nF== !eF)&&(eF||mF)&&(eN||mN)) by rw[←hmF,←hmN];exact HLB.out);have HLC:=Zh (show lC s=(q11||((nN== !eN)&&bX&&bA)) by rw[←hX];exact HLC.out);have HLD:=Zh (show lD s=(d1&&d2&&aA) by
    rw[←hd1,←hd2,←haA,HLD.out];have e1:decide (s.ex.length≤8)=decide ((s.ex.length:Int)≤8):=by rw[Bool.eq_iff_iff];simp;omega
    have e2:decide (s.args.length≤8)=decide ((s.args.length:Int)≤8):=by rw[Bool.eq_iff_iff];simp;omega
    rw[e1,e2])
   have HCO:=Zh (costr_any s.args ok A2 c2 wc HRD1.out.args.2.2 HRD1.out.args.2.1);have HPE:=Zh (pexprs_any s.ex ok A1 c1 wc HRD1.out.ex.2.2 HRD1.out.ex.2.1);go_upto_region 4 with fail
   go_cut [4] (fun v4 wx=>v4= .bool q11∧wx=wc∧lB s=true)
   case first=>
    cases nF<;>cases eF<;>cases eN;all_goals
     go_wp2_with (go_at_call 112;refine(pnamed_any _ _).mono ?_;rintro e w1 ⟨rfl,rfl⟩)
    all_goals
     refine(unless_any _ _).mono ?_;rintro e w1 ⟨he,rfl⟩;rcases he.or with⟨hb,rfl⟩|⟨hb,rfl⟩
     ·first
       |exact Bool.noConfusion hb
       |(go_wp2_with fail;go_meet;exact⟨rfl,rfl,by rw[HLB.out];clear HLA HFM HFC HRD1 HRD HB0 HF0 HLB HLC HLD HKL HCO HPE HA p0 p1 p2 p3 p4 p5 p6 s0 s1 s2 s3 s4 s5 s6 s7 s8 f11 fB fL fA fF fN hmF hmN hX hd1 hd2 haA;(try simp only[Bool.not_eq_true] at*);subst_vars;rfl⟩)
     ·first
       |exact Bool.noConfusion hb
       |(go_wp2_with fail;refine⟨rfl,lookR_f ?_,HFC.out⟩;rw[HFM.out,HA.out,HLB.out];clear HLA HFM HFC HRD1 HRD HB0 HF0 HLB HLC HLD HKL HCO HPE HA p0 p1 p2 p3 p4 p5 p6 s0 s1 s2 s3 s4 s5 s6 s7 s8 f11 fB fL fA fF fN hmF hmN hX hd1 hd2 haA;(try simp only[Bool.not_eq_true] at*);subst_vars;(first|rfl|simp))
   case rest=>
    obtain⟨rfl,rfl,hLB⟩:=hcut;have HB:=Zh hLB;clear hLB;go_upto_region 5 with fail
    go_cut [4] (fun v4 wx=>wx=wc∧lC s=true)
    case first=>
     cases q11<;>cases nN<;>cases eN<;>cases bX;all_goals
      go_wp2_with fail
     all_goals
      refine(unless_any _ _).mono ?_;rintro e w1 ⟨he,rfl⟩;rcases he.or with⟨hb,rfl⟩|⟨hb,rfl⟩
      ·first
        |exact Bool.noConfusion hb
        |(go_wp2_with fail;go_meet;exact⟨rfl,by rw[HLC.out];clear HLA HFM HFC HRD1 HRD HB0 HF0 HLB HLC HLD HKL HCO HPE HA p0 p1 p2 p3 p4 p5 p6 s0 s1 s2 s3 s4 s5 s6 s7 s8 f11 fB fL fA fF fN hmF hmN hX hd1 hd2 haA;(try simp only[Bool.not_eq_true] at*);subst_vars;rfl⟩)
      ·first
        |exact Bool.noConfusion hb
        |(go_wp2_with fail;refine⟨rfl,lookR_f ?_,HFC.out⟩;rw[HFM.out,HA.out,HB.out,HLC.out];clear HLA HFM HFC HRD1 HRD HB0 HF0 HLB HLC HLD HKL HCO HPE HA p0 p1 p2 p3 p4 p5 p6 s0 s1 s2 s3 s4 s5 s6 s7 s8 f11 fB fL fA fF fN hmF hmN hX hd1 hd2 haA;(try simp only[Bool.not_eq_true] at*);subst_vars;(first|rfl|simp))
    case rest=>
     obtain⟨rfl,hLC⟩:=hcut;have HC:=Zh hLC;clear hLC;go_upto_region 6 with fail
     go_cut [4] (fun v4 wx=>wx=wc∧lD s=true)
     case first=>
      cases d1<;>cases d2;all_goals
       go_wp2_with (refine HCO.out.mono ?_;rintro e w1 ⟨rfl,rfl⟩;rw[haA]);cases aA;all_goals (try go_wp2_with fail)
      all_goals
       refine(unless_any _ _).mono ?_;rintro e w1 ⟨he,rfl⟩;rcases he.or with⟨hb,rfl⟩|⟨hb,rfl⟩
       ·first
         |exact Bool.noConfusion hb
         |(go_wp2_with fail;go_meet;exact⟨rfl,by rw[HLD.out];clear HLA HFM HFC HRD1 HRD HB0 HF0 HLB HLC HLD HKL HCO HPE HA p0 p1 p2 p3 p4 p5 p6 s0 s1 s2 s3 s4 s5 s6 s7 s8 f11 fB fL fA fF fN hmF hmN hX hd1 hd2 haA;(try simp only[Bool.not_eq_true] at*);subst_vars;rfl⟩)
       ·first
         |exact Bool.noConfusion hb
         |(go_wp2_with fail;refine⟨rfl,lookR_f ?_,HFC.out⟩;rw[HFM.out,HA.out,HB.out,HC.out,HLD.out];clear HLA HFM HFC HRD1 HRD HB0 HF0 HLB HLC HLD HKL HCO HPE HA p0 p1 p2 p3 p4 p5 p6 s0 s1 s2 s3 s4 s5 s6 s7 s8 f11 fB fL fA fF fN hmF hmN hX hd1 hd2 haA;(try simp only[Bool.not_eq_true] at*);subst_vars;(first|rfl|simp))
     case rest=>
      obtain⟨rfl,hLD⟩:=hcut;have HD:=Zh hLD;clear hLD;go_wp2_with fail;refine HPE.out.mono ?_;rintro e w1 ⟨he,hf⟩;have HF2:=Zh (HFC.out.trans hf);clear hf;rcases he.or with⟨hb,rfl⟩|⟨hb,rfl⟩
      ·have HX:=Zh hb;clear hb;go_wp2_with fail
       go_end0
       exact⟨lookR_t (by rw[HFM.out,HA.out,HB.out,HC.out,HD.out,HX.out];rfl),HF2.out⟩
      ·have HX:=Zh hb;clear hb;go_wp2_with fail;exact⟨rfl,lookR_f (by rw[HFM.out,HX.out];simp),HF2.out⟩
def LookN (b:Bool) (n:Int) (e:Ending):Prop:=e=if b then .returned (.int .i64 n) else .panicked [{v:=.iface 156 (.agg #[.nilIface]),recovered:=false}]
theorem LookN.t {n:Int} {e:Ending} (h:LookN true n e):e= .returned (.int .i64 n):=h
theorem LookN.f {n:Int} {e:Ending} (h:LookN false n e):e= .panicked [{v:=.iface 156 (.agg #[.nilIface]),recovered:=false}]:=h
theorem lookN_t {b:Bool} {m n:Int} (h:b=true) (hn:m=n):LookN b n (.returned (.int .i64 m)):=by subst h;subst hn;rfl
theorem lookN_f {b:Bool} {n:Int} (h:b=false):LookN b n (.panicked [{v:=.iface 156 (.agg #[.nilIface]),recovered:=false}]):=by subst h;rfl
def inner (l:List St):Nat:=(l.map fun s=>St.sizes s.body+St.sizes s.els).sum
theorem inner_snoc (l:List St) (x:St):inner (l++[x])=inner l+(St.sizes x.body+St.sizes x.els):=by simp[inner]
theorem inner_all (l:List St):l.length+inner l=St.sizes l:=by
 induction l with
 |nil=>rfl
 |cons x l ih=>simp only[inner,List.map_cons,List.sum_cons,List.length_cons,St.sizes,St.size_eq] at ih ⊢;omega
theorem inner_take (l:List St) (j:Nat) (h:j<l.length):inner (l.take (j+1))=inner (l.take j)+(St.sizes l[j].body+St.sizes l[j].els):=by
 rw[take_snoc l j h,inner_snoc]
theorem inner_le (l:List St) (j:Nat):inner (l.take j)≤inner l:=by
 induction l generalizing j with
 |nil=>simp[inner]
 |cons x l ih=>
  cases j with
  |zero=>simp[inner]
  |succ j=>have:=ih j;simp only[inner,List.take_succ_cons,List.map_cons,List.sum_cons] at this ⊢;omega
theorem dead_end {A:Prop} (h:A) {w:World} (_:wpAny Tryz.prog .any #[] (fun _ _ _=>True) 0 #[] {tmps:=#[],defers:=[]} w):A:=h
theorem pstmts_any (N:Nat):∀(l:List St) (deep:Nat) (ok:Nat→Prop) (A:Option Addr) (c:Nat) (w:World),St.sizes l<N→St.sizes l≤1099511627776→deep≤41→RdRows ok w 9 A 0 (St.ds l)→l.length*144≤reach→
  Calls Tryz.prog 114 #[.slice A l.length c,.int .i64 (deep:Int)] w fun e w'=>LookN (St.oks l deep) (St.sizes l) e∧Fr Non w w':=by
 induction N with
 |zero=>intro l deep ok A c w hN;omega
 |succ N ih=>
 intro l deep ok A c w hN hN2 hd hr hc;have hlen:l.length≤140737488355328:=by unfold reach at hc;omega
 have IH:=Zh ih;clear ih;have HR:=Zh hr;clear hr;have HC:=Zh hc;clear hc;have HNN:=Zh hN;clear hN;have HIA:=Zh (inner_all l);go_enter Tryz.func114,Tryz.ntmps114;go_wp2_with fail
 go_loopw [5,12] (fun t i wr=>∃j:Nat,i= .int .i64 j∧t= .int .i64 ((l.length+inner (l.take j):Nat):Int)∧j≤l.length∧Fr Non w wr∧∀q,q<j→∀hq:q<l.length,St.ok l[q] deep=true) (fun _ i _=>l.length-(intOf i).toNat)
 case atStart=>exact⟨0,rfl,by simp[inner],by omega,Zf _,fun j hj=>by omega⟩
 case round=>
  obtain⟨j,rfl,rfl,hj,hfr,hno⟩:=hrel;have HN:=Zh hno;clear hno;by_cases hlt:j<l.length
  ·obtain⟨b,o1,A1,c1,A2,c2,A3,c3,A4,c4,rfl,hb,e0,e1,e2,e3,e4,e5,e6,e7,e8,r1,r2,r3,r4⟩:=at_st (HR.out.fr hfr (fun _ _=>non _) (fun _ h=>h)) j hlt;have HSR:=Zh (⟨r1,r2,r3,r4⟩:StRd ok wr l[j] A1 A2 A3 A4 c1 c2 c3 c4);clear r1 r2 r3 r4;have HQ:=Zh (ssize_le l j hlt);have HT:=Zh (inner_take l j hlt);have HT2:=Zh (inner_le l (j+1));have HF:=Zh hfr;clear hfr;generalize hx:l[j]=x at*;have HX:=Zh hx;clear hx;have HE:=Zh (fun(q:Bool) (h:St.ok x deep=q) (hq:q=false)=>oks_false l deep j hlt (show St.ok l[j] deep=false by rw[HX.out,h,hq]));have HEQ:=Zh (St.ok_eq x deep);by_cases hdd:deep≤40
   ·have hdb:decide ((deep:Int)≤40)=true:=by simp;omega
    have hf0:=(Zf wr).alloc (.cells #[vu8 x.kind,.string x.name,.string x.frm,.bool x.sec,.bool x.mt,.slice A1 x.ex.length c1,.slice A2 x.args.length c2,.slice A3 x.body.length c3,.slice A4 x.els.length c4] 42);have HFO:=Zh (pform_any x ok A1 A2 A3 A4 c1 c2 c3 c4 _ (HSR.out.fr hf0 fun _ _=>non _));clear hf0;go_wp2_with fail;refine(unless_t _).mono ?_;rintro e w1 ⟨rfl,rfl⟩;go_wp2_with fail;refine HFO.out.mono ?_;rintro e w2 ⟨he,hf2⟩;have hbz:=Zb (blk_new wr _ _) hf2 (non _);have y7:=(Zc hbz).1 7 _ rfl;have y8:=(Zc hbz).1 8 _ rfl;have HS2:=Zh (HSR.out.fr (box_fr hf2) fun _ _=>non _);have HF2:=Zh (HF.out.trans (box_fr hf2));clear hf2 hbz;clear e0 e1 e2 e3 e4 e5 e6 e7 e8;cases hm:formM x with
    |false=>
     rw[hm] at he;obtain rfl:=he.f;clear he;have HM:=Zh hm;clear hm;go_wp2_with fail;exact⟨rfl,lookN_f (HE.out _ HEQ.out (by rw[HM.out];simp)),HF2.out⟩
    |true=>
     rw[hm] at he;obtain rfl:=he.t;clear he;have HM:=Zh hm;clear hm;have hbod:=fun(w1:World) (hf1:Fr Non w2 w1)=>IH.out x.body (deep+1) ok A3 c3 w1 (by have:=HNN.out;have:=HQ.out;rw[St.size_eq] at this;omega) (by have:=HQ.out;rw[St.size_eq] at this;omega) (by omega) (HS2.out.body.2.2.fr hf1 (fun _ _=>non _) (fun _ h=>h)) HS2.out.body.2.1;have hels:=fun(w1:World) (hf1:Fr Non w2 w1)=>IH.out x.els (deep+1) ok A4 c4 w1 (by have:=HNN.out;have:=HQ.out;rw[St.size_eq] at this;omega) (by have:=HQ.out;rw[St.size_eq] at this;omega) (by omega) (HS2.out.els.2.2.fr hf1 (fun _ _=>non _) (fun _ h=>h)) HS2.out.els.2.1;have HBOD:=Zh hbod;clear hbod;have HELS:=Zh hels;clear hels;have ec:((deep+1:Nat):Int)=(deep:Int)+1:=by omega
     rw[ec] at HBOD HELS;have hs1:l.length+inner (l.take j)+(St.sizes x.body+St.sizes x.els)≤1099511627776:=by have:=HT.out;have:=HT2.out;have:=HIA.out;omega
     have hwr:IntKind.i64.wrap ((deep:Int)+1)=(deep:Int)+1:=IntWalk.i64_in _ (by omega);cases hob:St.oks x.body (deep+1) with
     |false=>
      rw[hob] at HBOD;have HB:=Zh hob;clear hob ec;have HD:=Zh (lookN_f (n:=St.sizes l) (HE.out _ HEQ.out (by rw[HM.out,HB.out];simp)));cases hoe:St.oks x.els (deep+1) with
      |false=>
       rw[hoe] at HELS;clear hoe;go_wp2_with fail
       go_region_with (first|(go_at_call_of 114 A3;refine(HBOD.out w2.drew (Zf w2).drew).mono ?_;rintro e w3 ⟨he,hf3⟩;obtain rfl:=he.f;go_wp2_with fail;refine dead_end (w:=w2) ?_ ?_;exact⟨rfl,HD.out,HF2.out.trans ((Zf w2).drew.trans hf3)⟩)|(go_at_call_of 114 A4;refine(HELS.out w2.drew (Zf w2).drew).mono ?_;rintro e w3 ⟨he,hf3⟩;obtain rfl:=he.f;go_wp2_with fail;refine dead_end (w:=w2) ?_ ?_;exact⟨rfl,HD.out,HF2.out.trans ((Zf w2).drew.trans hf3)⟩))
       all_goals trivial
      |true=>
       rw[hoe] at HELS;clear hoe;go_wp2_with fail
       go_region_with (first|(go_at_call_of 114 A3;refine(HBOD.out w4 ((Zf w2).drew.trans hf4)).mono ?_;rintro e w3 ⟨he,hf3⟩;obtain rfl:=he.f;go_wp2_with fail;refine dead_end (w:=w2) ?_ ?_;exact⟨rfl,HD.out,HF2.out.trans ((Zf w2).drew.trans (hf4.trans hf3))⟩)|(go_at_call_of 114 A3;refine(HBOD.out w2.drew (Zf w2).drew).mono ?_;rintro e w3 ⟨he,hf3⟩;obtain rfl:=he.f;go_wp2_with fail;refine dead_end (w:=w2) ?_ ?_;exact⟨rfl,HD.out,HF2.out.trans ((Zf w2).drew.trans hf3)⟩)|(go_at_call_of 114 A4;refine(HELS.out w2.drew (Zf w2).drew).mono ?_;rintro e w4 ⟨he,hf4⟩;obtain rfl:=he.t;have z7:=((Zf w2).drew.trans hf4).cell' y7 (non _);have z8:=((Zf w2).drew.trans hf4).cell' y8 (non _)))
       all_goals trivial
     |true=>
      cases hoe:St.oks x.els (deep+1) with
      |false=>
       rw[hob] at HBOD;rw[hoe] at HELS;have HD:=Zh (lookN_f (n:=St.sizes l) (HE.out _ HEQ.out (by rw[HM.out,hob,hoe];simp)));clear hob hoe;go_wp2_with fail
       go_region_with (first|(go_at_call_of 114 A4;refine(HELS.out w4 ((Zf w2).drew.trans hf4)).mono ?_;rintro e w3 ⟨he,hf3⟩;obtain rfl:=he.f;go_wp2_with fail;refine dead_end (w:=w2) ?_ ?_;exact⟨rfl,HD.out,HF2.out.trans ((Zf w2).drew.trans (hf4.trans hf3))⟩)|(go_at_call_of 114 A4;refine(HELS.out w2.drew (Zf w2).drew).mono ?_;rintro e w3 ⟨he,hf3⟩;obtain rfl:=he.f;go_wp2_with fail;refine dead_end (w:=w2) ?_ ?_;exact⟨rfl,HD.out,HF2.out.trans ((Zf w2).drew.trans hf3)⟩)|(go_at_call_of 114 A3;refine(HBOD.out w2.drew (Zf w2).drew).mono ?_;rintro e w4 ⟨he,hf4⟩;obtain rfl:=he.t;have z7:=((Zf w2).drew.trans hf4).cell' y7 (non _);have z8:=((Zf w2).drew.trans hf4).cell' y8 (non _)))
       all_goals trivial
      |true=>
       rw[hob] at HBOD;rw[hoe] at HELS;have HB:=Zh hob;clear hob;have HEL:=Zh hoe;clear hoe ec;have x7:=ext_cell y7;have x8:=ext_cell y8;clear y7 y8;go_wp2_with fail;refine wp_region_ext (by kernel_rfl) (by kernel_rfl) ?_
       repeat (go_big_quiet_step (fail))
       go_big_quiet_want;go_big_quiet_op;apply Exists.intro;refine⟨fun y=>?_,?_⟩
       ·exact calls_ext (v:=.int .i64 (St.sizes x.body)) ((HBOD.out _ (ext_fr _ _)).mono fun e w' h=>⟨h.1.t,h.2⟩)
       go_big_quiet_on
       repeat (go_big_quiet_step (fail))
       go_big_quiet_want;go_big_quiet_op;apply Exists.intro;refine⟨fun y=>?_,?_⟩
       ·exact calls_ext (v:=.int .i64 (St.sizes x.els)) ((HELS.out _ (ext_fr _ _)).mono fun e w' h=>⟨h.1.t,h.2⟩)
       go_big_quiet_on
       repeat (go_big_quiet_step (fail))
       refine wpQuiet_nil ?_;intro w3 hf3;clear x7 x8;have HF3:=Zh (HF2.out.trans hf3);clear hf3;go_wp2_with fail;go_roundw
       case rel=>exact⟨j+1,by go_num,by have:=HT.out;have:=hs1;go_num,by omega,HF3.out,till HN.out fun _=>by rw[HX.out,HEQ.out,HM.out,HB.out,HEL.out,decide_eq_true hdd];rfl⟩
       case measure=>simp[intOf];omega
   ·have hdb:decide ((deep:Int)≤40)=false:=by simp;omega
    go_wp2_with fail;refine(unless_f _).mono ?_;rintro e w1 ⟨rfl,rfl⟩;go_wp2_with fail;exact⟨rfl,lookN_f (HE.out _ HEQ.out (by rw[decide_eq_false hdd];simp)),HF.out.trans ((Zf wr).alloc _)⟩
  ·have hje:j=l.length:=by omega
   subst hje;have hok:St.oks l deep=true:=oks_true l deep fun q hq=>HN.out q hq hq;have HO:=Zh hok;clear hok;rw[List.take_length];have hs1:l.length+inner l=St.sizes l:=HIA.out;go_wp2_with fail;go_ret;exact⟨lookN_t HO.out (by rw[←hs1]),hfr⟩
theorem pfunction_any (f:Fu) (ok:Nat→Prop) (A1 A2 A3:Option Addr) (c1 c2 c3:Nat) (w:World) (hs:St.sizes f.body≤1099511627776) (r1:RdRows ok w 4 A1 0 (f.params.map Pa.d)) (q1:f.params.length*24≤reach) (r2:RdRows ok w 9 A2 0 (St.ds f.body)) (q2:f.body.length*144≤reach) (r3:RdRows ok w 5 A3 0 (Ex.ds f.ret)) (q3:f.ret.length*64≤reach):
  Calls Tryz.prog 77 #[.agg #[.string f.name,.slice A1 f.params.length c1,.slice A2 f.body.length c2,.bool f.sec,.slice A3 f.ret.length c3]] w fun e w'=>LookN (okF f) (St.sizes f.body) e∧Fr Non w w':=by
 have hl1:f.params.length≤140737488355328:=by unfold reach at q1;omega
 have hl3:f.ret.length≤140737488355328:=by unfold reach at q3;omega
 have R1:=Zh r1;clear r1;have R2:=Zh r2;clear r2;have R3:=Zh r3;clear r3;have Q3:=Zh q3;clear q1 q3;have Q2:=Zh q2;clear q2;have HS:=Zh hs;clear hs;obtain⟨s,hsec⟩:∃x,f.sec=x:=⟨_,rfl⟩;rw[hsec];have HSEC:=Zh hsec;clear hsec;go_enter Tryz.func77,Tryz.ntmps77;go_upto_region 1 with fail;obtain⟨W1,HW1⟩:∃W1,W1=w.alloc (.cells #[.string f.name,.slice A1 f.params.length c1,.slice A2 f.body.length c2,.bool s,.slice A3 f.ret.length c3] 53):=⟨_,rfl⟩;rw[←HW1];have hbb:W1.heap[w.heap.size]? =some (.cells #[.string f.name,.slice A1 f.params.length c1,.slice A2 f.body.length c2,.bool s,.slice A3 f.ret.length c3] 53 (0,0)):=by rw[HW1];exact blk_new _ _ _
 have hfw:Fr Non w W1:=by rw[HW1];exact(Zf w).alloc _
 clear HW1;have HFW:=Zh hfw;have g0:=(Zc hbb).1 0 _ rfl;have g1:=(Zc hbb).1 1 _ rfl;have g2:=(Zc hbb).1 2 _ rfl;have g3:=(Zc hbb).1 3 _ rfl;have g4:=(Zc hbb).1 4 _ rfl;have HBB:=Zh hbb;clear hbb;have HP1:=Zh (R1.out.fr hfw (fun _ _=>non _) (fun _ h=>h));have HP2:=Zh (R2.out.fr hfw (fun _ _=>non _) (fun _ h=>h));have HP3:=Zh (R3.out.fr hfw (fun _ _=>non _) (fun _ h=>h));clear hfw;obtain⟨m,hm⟩:∃x,namedM f.name=x:=⟨_,rfl⟩;obtain⟨d8,hd8⟩:∃x,decide ((f.params.length:Int)≤8)=x:=⟨_,rfl⟩;obtain⟨d1,hd1⟩:∃x,decide ((f.ret.length:Int)≤1)=x:=⟨_,rfl⟩;obtain⟨b1,hb1⟩:∃x,((f.ret.length:Int)==1)=x:=⟨_,rfl⟩;have HHD:=Zh (show fheadM f=(m&&d8&&d1&&(b1|| !s)&&f.ret.all exM) by
  rw[←hm,←hd8,←hd1,←hb1,←HSEC.out,fheadM];have e1:decide (f.params.length≤8)=decide ((f.params.length:Int)≤8):=by rw[Bool.eq_iff_iff];simp;omega
  have e2:decide (f.ret.length≤1)=decide ((f.ret.length:Int)≤1):=by rw[Bool.eq_iff_iff];simp;omega
  rw[e1,e2];by_cases h1:(f.ret.length:Int)≤1
  ·have e3:(f.ret.length==0)= !((f.ret.length:Int)==1):=by
    by_cases hz:f.ret.length=0
    ·rw[hz];rfl
    ·have:f.ret.length=1:=by omega
     rw[this];rfl
   rw[e3];generalize namedM f.name=a1;generalize decide ((f.params.length:Int)≤8)=a2;generalize decide ((f.ret.length:Int)≤1)=a3;generalize ((f.ret.length:Int)==1)=a4;generalize f.ret.all exM=a5;generalize f.sec=a6;cases a1<;>cases a2<;>cases a3<;>cases a4<;>cases a5<;>cases a6<;>rfl
  ·rw[decide_eq_false h1];simp)
 have HOK:=Zh (show okF f=(St.oks f.body 1&&(fheadM f&&f.params.all parM)) from rfl)
 go_cut [30] (fun v30 wx=>wx=W1∧(m&&d8&&d1&&(b1|| !s))=true)
 case first=>
  cases m<;>cases d8<;>cases d1<;>cases b1<;>cases s;all_goals
   go_wp2_with (go_at_call 112;refine(pnamed_any _ _).mono ?_;rintro e w1 ⟨rfl,rfl⟩;rw[hm])
  all_goals
   refine(unless_any _ _).mono ?_;rintro e w1 ⟨he,rfl⟩;rcases he.or with⟨hb,rfl⟩|⟨hb,rfl⟩
   ·first
     |exact Bool.noConfusion hb
     |(go_wp2_with fail;go_meet;exact⟨rfl,rfl⟩)
   ·first
     |exact Bool.noConfusion hb
     |(go_wp2_with fail;refine⟨rfl,lookN_f ?_,HFW.out⟩;rw[HOK.out,HHD.out];simp)
 case rest=>
  obtain⟨rfl,hH⟩:=hcut;have HH:=Zh hH;clear hH hm hd8 hd1 hb1;have HPX:=Zh (pexprs_any f.ret ok A3 c3 wc HP3.out Q3.out);go_wp2_with fail;refine HPX.out.mono ?_;rintro e w2 ⟨he,hf2⟩;cases ha:f.ret.all exM with
  |false=>
   rw[ha] at he;obtain rfl:=he.f;clear he;have HA:=Zh ha;clear ha;go_wp2_with fail;exact⟨rfl,lookN_f (by rw[HOK.out,HHD.out,HA.out];simp),HFW.out.trans hf2⟩
  |true=>
   rw[ha] at he;obtain rfl:=he.t;clear he;have HA:=Zh ha;clear ha;have HFT:=Zh (show fheadM f=true by rw[HHD.out,HH.out,HA.out];rfl);have h2:=Zb HBB.out hf2 (non _);have k1:=(Zc h2).1 1 _ rfl;have k2:=(Zc h2).1 2 _ rfl;have HB2:=Zh h2;clear h2;clear g0 g1 g2 g3 g4;have HF2:=Zh (HFW.out.trans hf2);clear hf2;go_wp2_with fail
   go_loopw [38] (fun i wr=>∃j:Nat,i= .int .i64 j∧j≤f.params.length∧Fr Non w2 wr∧∀q,q<j→∀hq:q<f.params.length,parM f.params[q]=true) (fun i _=>f.params.length-(intOf i).toNat)
   case atStart=>exact⟨0,rfl,by omega,Zf _,fun j hj=>by omega⟩
   case round=>
    obtain⟨j,rfl,hj,hfr,hno⟩:=hrel;have HN:=Zh hno;clear hno;by_cases hlt:j<f.params.length
    ·obtain⟨b,o1,rfl,hb,e0,e1,e2,e3⟩:=at_pa (R1.out.fr (HF2.out.trans hfr) (fun _ _=>non _) (fun _ h=>h)) j hlt;have HF:=Zh hfr;clear hfr;have HPM:=Zh (show parM f.params[j]=(namedM f.params[j].name&&(!f.params[j].mt||f.params[j].buf)) from rfl);have HAF:=Zh (fun h:parM f.params[j]=false=>all_false_of (p:=parM) j hlt h);generalize hx:f.params[j]=x at*;have HX:=Zh hx;clear hx;obtain⟨nm,bf,sc,mt⟩:=x;simp only at e0 e1 e2 e3 HPM;obtain⟨m2,hm2⟩:∃x,namedM nm=x:=⟨_,rfl⟩;rw[hm2] at HPM;cases m2<;>cases mt<;>cases bf;all_goals
      go_wp2_with (go_at_call 112;refine(pnamed_any _ _).mono ?_;rintro e w1 ⟨rfl,rfl⟩;rw[hm2]);refine(unless_any _ _).mono ?_;rintro e w1 ⟨he,rfl⟩;rcases he.or with⟨hb,rfl⟩|⟨hb,rfl⟩
      ·first
        |exact Bool.noConfusion hb
        |(go_wp2_with fail;go_roundw;(case rel=>exact⟨j+1,by go_num,by omega,HF.out.trans ((Zf _).alloc _),till HN.out fun _=>by rw[HX.out];exact HPM.out⟩);(case measure=>simp[intOf];omega))
      ·first
        |exact Bool.noConfusion hb
        |(go_wp2_with fail;refine⟨rfl,lookN_f ?_,HF2.out.trans (HF.out.trans ((Zf _).alloc _))⟩;rw[HOK.out,HAF.out HPM.out];simp)
    ·have hje:j=f.params.length:=by omega
     subst hje;have HP:=Zh (all_true_of (p:=parM) (l:=f.params) fun q hq=>HN.out q hq hq);have y2:=hfr.cell' k2 (non _);have HST:=Zh (pstmts_any (St.sizes f.body+1) f.body 1 ok A2 c2 wr (by omega) HS.out (by omega) (R2.out.fr (HF2.out.trans hfr) (fun _ _=>non _) (fun _ h=>h)) Q2.out);go_wp2_with fail;refine HST.out.mono ?_;rintro e w3 ⟨he,hf3⟩;cases hob:St.oks f.body 1 with
     |false=>
      rw[hob] at he;obtain rfl:=he.f;clear he;have HB:=Zh hob;clear hob;go_wp2_with fail;exact⟨rfl,lookN_f (by rw[HOK.out,HB.out];rfl),HF2.out.trans (hfr.trans hf3)⟩
     |true=>
      rw[hob] at he;obtain rfl:=he.t;clear he;have HB:=Zh hob;clear hob;go_wp2_with fail;go_ret;exact⟨lookN_t (by rw[HOK.out,HB.out,HFT.out,HP.out];rfl) rfl,HF2.out.trans (hfr.trans hf3)⟩
theorem lookR_t' {b:Bool} (h:b=true):LookR b (.returned (.tuple #[])):=by subst h;rfl
theorem pcheck1_any (l:List Fu) (ok:Nat→Prop) (A:Option Addr) (c bb:Nat) (w:World) (hbb:w.heap[bb]? =some (.cells #[.slice A l.length c] 24 (0,0))) (hr:RdRows ok w 5 A 0 (l.map Fu.d)) (hc:l.length*96≤reach) (hs:Fu.sizes l≤1099511627776):
  Calls Tryz.prog 76 #[.pointer (some ⟨bb,0,none⟩)] w fun e w'=>LookR (mayM l) e∧Fr Non w w':=by
 have hlen:l.length≤140737488355328:=by unfold reach at hc;omega
 have HR:=Zh hr;clear hr;have g0:=(Zc hbb).1 0 _ rfl;have HBB:=Zh hbb;clear hbb;go_enter Tryz.func76,Tryz.ntmps76;go_wp2_with fail
 go_loopw [1,7] (fun t i wr=>∃j:Nat,i= .int .i64 j∧t= .int .i64 (Fu.sizes (l.take j))∧j≤l.length∧Fr Non w wr∧∀q,q<j→∀hq:q<l.length,okF l[q]=true) (fun _ i _=>l.length-(intOf i).toNat)
 case atStart=>exact⟨0,rfl,by simp[Fu.sizes],by omega,Zf _,fun j hj=>by omega⟩
 case round=>
  obtain⟨j,rfl,rfl,hj,hfr,hno⟩:=hrel;have HN:=Zh hno;clear hno;by_cases hlt:j<l.length
  ·obtain⟨b,o1,A1,c1,A2,c2,A3,c3,rfl,hb,e0,e1,e2,e3,e4,⟨p1,q1,r1⟩,⟨p2,q2,r2⟩,⟨p3,q3,r3⟩⟩:=at_fu (HR.out.fr hfr (fun _ _=>non _) (fun _ h=>h)) j hlt;have HF:=Zh hfr;clear hfr;have hf0:=(Zf wr).alloc (.cells #[.string l[j].name,.slice A1 l[j].params.length c1,.slice A2 l[j].body.length c2,.bool l[j].sec,.slice A3 l[j].ret.length c3] 53);have HT:=Zh (fsizes_take l j hlt);have HT2:=Zh (fsizes_take_le l (j+1));have HFN:=Zh (pfunction_any l[j] ok A1 A2 A3 c1 c2 c3 _ (by have:=fsize_le l j hlt;omega) (r1.fr hf0 (fun _ _=>non _) (fun _ h=>h)) q1 (r2.fr hf0 (fun _ _=>non _) (fun _ h=>h)) q2 (r3.fr hf0 (fun _ _=>non _) (fun _ h=>h)) q3);clear hf0 r1 r2 r3;have HAF:=Zh (fun h:okF l[j]=false=>all_false_of (p:=okF) j hlt h);go_wp2_with fail;refine HFN.out.mono ?_;rintro e w2 ⟨he,hf2⟩;have HF2:=Zh (HF.out.trans (box_fr hf2));clear hf2;cases hk:okF l[j] with
   |false=>
    rw[hk] at he;obtain rfl:=he.f;clear he;have HK:=Zh hk;clear hk;go_wp2_with fail;exact⟨rfl,lookR_f (by rw[mayM,HAF.out HK.out];rfl),HF2.out⟩
   |true=>
    rw[hk] at he;obtain rfl:=he.t;clear he;have HK:=Zh hk;clear hk;have hs1:Fu.sizes (l.take j)+St.sizes l[j].body≤1099511627776:=by have:=HT.out;have:=HT2.out;omega
    go_wp2_with fail;go_roundw
    case rel=>exact⟨j+1,by go_num,by rw[HT.out];congr 1<;>omega,by omega,HF2.out,till HN.out fun _=>HK.out⟩
    case measure=>simp[intOf];omega
  ·have hje:j=l.length:=by omega
   subst hje;have HA:=Zh (all_true_of (p:=okF) (l:=l) fun q hq=>HN.out q hq hq);have k0:=hfr.cell' g0 (non _);have HF:=Zh hfr;clear hfr;rw[List.take_length];obtain⟨d16,hd16⟩:∃x,decide ((l.length:Int)≤16)=x:=⟨_,rfl⟩;obtain⟨d4,hd4⟩:∃x,decide ((Fu.sizes l:Int)≤400)=x:=⟨_,rfl⟩;have HM:=Zh (show mayM l=(d16&&d4) by
    rw[mayM,HA.out,←hd16,←hd4];have e1:decide (l.length≤16)=decide ((l.length:Int)≤16):=by rw[Bool.eq_iff_iff];simp;omega
    have e2:decide (Fu.sizes l≤400)=decide ((Fu.sizes l:Int)≤400):=by rw[Bool.eq_iff_iff];simp;omega
    rw[e1,e2];rfl)
   cases d16<;>cases d4;all_goals
    go_wp2_with fail;refine(unless_any _ _).mono ?_;rintro e w1 ⟨he,rfl⟩;rcases he.or with⟨hb,rfl⟩|⟨hb,rfl⟩
    ·first
      |exact Bool.noConfusion hb
      |(go_wp2_with fail;go_end0;exact⟨lookR_t' HM.out,HF.out⟩)
    ·first
      |exact Bool.noConfusion hb
      |(go_wp2_with fail;exact⟨rfl,lookR_f HM.out,HF.out⟩)
theorem guard_catch (b:Nat) (old:Value) (T:TypeId) (w:World) (hb:w.heap[b]? =some (.cells #[old] T (0,0))):
  CallsD Tryz.prog 111 #[.pointer (some ⟨b,0,none⟩)] (.panicking [{v:=.iface 156 (.agg #[.nilIface]),recovered:=false}]) w fun e u' w'=>
   e= .returned (.tuple #[])∧u'= .panicking [{v:=.iface 156 (.agg #[.nilIface]),recovered:=true}]∧w'.heap[b]? =some (.cells #[.iface 32 (.int .i64 2)] T (0,0))∧Fr (fun k=>k=b) w w':=by
 have hta:∀w:World,(Instr.typeAssert (.iface 156 (.agg #[.nilIface])) 20 156 true).run Tryz.prog w= .ok (.tuple #[.agg #[.nilIface],.bool true]) w:=fun w=>by kernel_rfl
 have hmi:∀w:World,(Instr.makeInterface 32 (.int .i64 2)).run Tryz.prog w= .ok (.iface 32 (.int .i64 2)) w:=fun w=>by kernel_rfl
 have hf1:=(Fr.refl (fun k=>k=b) w).alloc (.cells #[.nilIface] 156);have hb1:=Zb hb ((Zf w).alloc (.cells #[.nilIface] 156)) (non _);have hb2:=blk_set hb1 0 .nilIface;have hb3:=blk_set hb2 0 (.iface 32 (.int .i64 2));have hf3:=(hf1.setCell ⟨b,0,none⟩ .nilIface (.inl rfl)).setCell ⟨b,0,none⟩ (.iface 32 (.int .i64 2)) (.inl rfl);have c1:=(Zc hb1).1 0 _ rfl;have z1:=(Zc hb1).2 0;have c2:=(Zc hb2).1 0 _ rfl;have z2:=(Zc hb2).2 0;refine callsD_of_wpS Tryz.func111 rfl fun c₀ cs hu=>?_;apply wpS_seq;apply wpS_region;simp[wpOpsS,go_sem,recoverD,hu,Tryz.ntmps111,Exit.thenS];refine wpS_of_wp ?_;go_wp2_with fail;refine⟨rfl,_,rfl,_,by simp[results,Tryz.results111,go_sem],rfl,rfl,?_,?_⟩
 ·simpa using hb3
 ·exact hf3
theorem guard_idle (b:Nat) (w:World):
  CallsD Tryz.prog 111 #[.pointer (some ⟨b,0,none⟩)] .returning w fun e u' w'=>e= .returned (.tuple #[])∧u'= .returning∧w=w':=by
 refine callsD_of_wpS Tryz.func111 rfl fun c₀ cs hu=>?_;apply wpS_seq;apply wpS_region;simp[wpOpsS,go_sem,recoverD,hu,Tryz.ntmps111,Exit.thenS];refine wpS_of_wp ?_;go_wp2_with fail;refine⟨rfl,_,?_,_,by simp[results,Tryz.results111,go_sem],rfl,rfl,rfl⟩;rw[←hu]
theorem guard_any (l:List Fu) (ok:Nat→Prop) (A:Option Addr) (c bb:Nat) (w:World) (hbb:w.heap[bb]? =some (.cells #[.slice A l.length c] 24 (0,0))) (hr:RdRows ok w 5 A 0 (l.map Fu.d)) (hc:l.length*96≤reach) (hs:Fu.sizes l≤1099511627776):
  Calls Tryz.prog 75 #[.func (.func 76) #[] #[.pointer (some ⟨bb,0,none⟩)]] w fun e w'=>e= .returned (if mayM l then .nilIface else .iface 32 (.int .i64 2))∧Fr Non w w':=by
 have hmf:∀(fn:Fn) (first cap:Array Value) (w:World),(Instr.makeFunc fn first cap).run Tryz.prog w= .ok (.func fn first cap) w:=fun _ _ _ _=>rfl;have hf0:=(Zf w).alloc (.cells #[.nilIface] 30);have hb0:=Zb hbb hf0 (non _);have hbn:=blk_new w #[.nilIface] 30;have HC:=Zh (pcheck1_any l ok A c bb _ hb0 (hr.fr hf0 (fun _ _=>non _) (fun _ h=>h)) hc hs);obtain⟨r,hR⟩:∃r:Value,(if mayM l then .nilIface else .iface 32 (.int .i64 2))=r:=⟨_,rfl⟩;rw[hR];have HRR:=Zh hR;clear hR;go_enter_defers Tryz.func75,Tryz.ntmps75;go_wp2_with fail;refine HC.out.mono ?_;rintro e w2 ⟨he,hf2⟩;have hb2:=Zb hbn hf2 (non _);have hff:=box_fr hf2;have hNon:∀w3,Fr (fun k=>k=w.heap.size) w2 w3→Fr Non w w3:=fun w3 h3=>hff.then h3 fun k hk e=>by omega
 have c2:=(Zc hb2).1 0 _ rfl;have z2:=(Zc hb2).2 0;cases hm:mayM l with
 |true=>
  rw[hm] at he;obtain rfl:=he.t;clear he;have HMM:=Zh hm;clear hm;have hb3:=blk_set hb2 0 .nilIface;go_wp2_with fail;refine leaves_cons (f:=111) (args:=#[.pointer (some ⟨w.heap.size,0,none⟩)]) (by simp) (by simp[go_sem]) ?_;refine(guard_idle w.heap.size _).mono ?_;rintro e u' w'' ⟨rfl,rfl,rfl⟩;have c3:=(Zc hb3).1 0 _ rfl;have HR:=Zh (hNon _ ((Fr.refl _ w2).setCell ⟨w.heap.size,0,none⟩ .nilIface (.inl rfl)));simp[Leaves,settle,results,Tryz.results75,go_sem,c3];exact⟨by rw[←HRR.out,HMM.out];rfl,HR.out⟩
 |false=>
  rw[hm] at he;obtain rfl:=he.f;clear he;have HMM:=Zh hm;clear hm;go_wp2_with fail;refine leaves_cons (f:=111) (args:=#[.pointer (some ⟨w.heap.size,0,none⟩)]) (by simp) (by simp[go_sem]) ?_;refine(guard_catch w.heap.size _ _ _ hb2).mono ?_;rintro e u' w'' ⟨rfl,rfl,hb3,hf3⟩;have c3:=(Zc hb3).1 0 _ rfl;have HR:=Zh (hNon _ hf3);clear hf3;simp[Leaves,settle,results,Tryz.results75,go_sem,c3];exact⟨by rw[←HRR.out,HMM.out];rfl,HR.out⟩
theorem pcheck_any (l:List Fu) (ok:Nat→Prop) (A:Option Addr) (c:Nat) (w:World) (hr:RdRows ok w 5 A 0 (l.map Fu.d)) (hc:l.length*96≤reach) (hs:Fu.sizes l≤1099511627776):
  Calls Tryz.prog 48 #[.agg #[.slice A l.length c]] w fun e w'=>e= .returned (.int .i64 (if mayM l then 0 else 2))∧Fr Non w w':=by
 have hmf:∀(fn:Fn) (first cap:Array Value) (w:World),(Instr.makeFunc fn first cap).run Tryz.prog w= .ok (.func fn first cap) w:=fun _ _ _ _=>rfl;have hf0:=(Zf w).alloc (.cells #[.slice A l.length c] 24);have HC:=Zh (guard_any l ok A c w.heap.size _ (blk_new w #[.slice A l.length c] 24) (hr.fr hf0 (fun _ _=>non _) (fun _ h=>h)) hc hs);obtain⟨r,hR⟩:∃r:Int,(if mayM l then 0 else 2)=r:=⟨_,rfl⟩;rw[hR];have HRR:=Zh hR;clear hR;go_enter Tryz.func48,Tryz.ntmps48;go_wp2_with fail;refine HC.out.mono ?_;rintro e w2 ⟨rfl,hf2⟩;have HF:=Zh (box_fr hf2);clear hf2;cases hm:mayM l with
 |true=>
  have HM:=Zh hm;clear hm;simp only[if_true];go_wp2_with fail;go_ret;exact⟨ret_int (by rw[←HRR.out,HM.out];rfl),HF.out⟩
 |false=>
  have HM:=Zh hm;clear hm;simp only[Bool.false_eq_true,if_false];go_wp2_with fail;go_ret;exact⟨ret_int (by rw[←HRR.out,HM.out];rfl),HF.out⟩
theorem check_catch (b:Nat) (old:Value) (T:TypeId) (x y:Int) (w:World) (hb:w.heap[b]? =some (.cells #[old] T (0,0))):
  CallsD Tryz.prog 49 #[.pointer (some ⟨b,0,none⟩)] (.panicking [{v:=faultV x y,recovered:=false}]) w fun e u' w'=>
   e= .returned (.tuple #[])∧u'= .panicking [{v:=faultV x y,recovered:=true}]∧w'.heap[b]? =some (.cells #[faultV x y] T (0,0))∧Fr (fun k=>k=b) w w':=by
 have hta:∀w:World,(Instr.typeAssert (.iface 34 (.agg #[.int .i64 x,.int .i64 y])) 20 34 true).run Tryz.prog w= .ok (.tuple #[.agg #[.int .i64 x,.int .i64 y],.bool true]) w:=fun w=>by kernel_rfl
 have hmi:∀w:World,(Instr.makeInterface 34 (.agg #[.int .i64 x,.int .i64 y])).run Tryz.prog w= .ok (.iface 34 (.agg #[.int .i64 x,.int .i64 y])) w:=fun w=>by kernel_rfl
 have hf1:=(Fr.refl (fun k=>k=b) w).alloc (.cells #[.int .i64 x,.int .i64 y] 34);have hb1:=Zb hb ((Zf w).alloc (.cells #[.int .i64 x,.int .i64 y] 34)) (non _);have hb2:=blk_set hb1 0 (faultV x y);have hf3:=hf1.setCell ⟨b,0,none⟩ (faultV x y) (.inl rfl);have c1:=(Zc hb1).1 0 _ rfl;have z1:=(Zc hb1).2 0;refine callsD_of_wpS Tryz.func49 rfl fun c₀ cs hu=>?_;apply wpS_seq;apply wpS_region;unfold faultV at*;simp[wpOpsS,go_sem,recoverD,hu,Tryz.ntmps49,Exit.thenS];refine wpS_of_wp ?_;go_wp2_with fail;refine⟨rfl,_,rfl,_,by simp[results,Tryz.results49,go_sem],rfl,rfl,?_,?_⟩
 ·simpa using hb2
 ·exact hf3
theorem check_idle (b:Nat) (w:World):
  CallsD Tryz.prog 49 #[.pointer (some ⟨b,0,none⟩)] .returning w fun e u' w'=>e= .returned (.tuple #[])∧u'= .returning∧w=w':=by
 refine callsD_of_wpS Tryz.func49 rfl fun c₀ cs hu=>?_;apply wpS_seq;apply wpS_region;simp[wpOpsS,go_sem,recoverD,hu,Tryz.ntmps49,Exit.thenS];refine wpS_of_wp ?_;go_wp2_with fail;refine⟨rfl,_,?_,_,by simp[results,Tryz.results49,go_sem],rfl,rfl,rfl⟩;rw[←hu]
theorem scFun_n (P:List Fu) (F:Nat) (f:Fu) (n m:Int) (h:scFun P F f n= .ok m):n≤m∧m≤n+St.sizes f.body+2:=by
 unfold scFun at h;split at h
 ·cases h
 split at h
 ·cases h
 rename_i a ha;have h1:=scParams_n _ _ _ ha;split at h
 ·cases h
 rename_i a1 aw hb;have h2:=scStmts_n P F _ _ _ _ _ hb;split at h
 ·cases h;simp only at h1;omega
 ·cases h
theorem scWalk_n (P:List Fu):∀(i:Nat) (n:Int),i≤P.length→scWalk P i= .ok n→0≤n∧n≤2*i+Fu.sizes (P.take i)
 |0,n,_,h=>by cases h;simp[Fu.sizes]
 |i+1,n,hi,h=>by
  rw[scWalk] at h;split at h
  ·cases h
  rename_i m hm;have h1:=scWalk_n P i m (by omega) hm;have h2:=scFun_n _ _ _ _ _ h;have h3:=fsizes_take P i (by omega);rw[List.getD_eq_getElem?_getD,List.getElem?_eq_getElem (by omega),Option.getD_some] at h2
  push_cast
  omega
theorem scWalk_mono (P:List Fu) (x:Int×Int):∀(i j:Nat),i≤j→scWalk P i= .error x→scWalk P j= .error x
 |i,j,hij,h=>by
  induction hij with
  |refl=>exact h
  |step _ ih=>rw[scWalk,ih]
def scCheckV (P:List Fu):Value:=if mayM P then(match scWalk P P.length with
 | .error x=>faultV x.1 x.2
 | .ok _=>.nilIface) else faultV 0 2
theorem scheck_any (P:List Fu) (ok:Nat→Prop) (A:Option Addr) (c:Nat) (w:World) (hr:RdRows ok w 5 A 0 (P.map Fu.d)) (hc:P.length*96≤reach) (hpc:P.length≤c) (hs:Fu.sizes P≤1099511620000) (hok:∀q,ok q→q<w.heap.size):
  Calls Tryz.prog 21 #[.agg #[.slice A P.length c]] w fun e w'=>e= .returned (scCheckV P)∧Fr Non w w':=by
 have hlen:P.length≤140737488355328:=by unfold reach at hc;omega
 have hmf:∀(fn:Fn) (first cap:Array Value) (w:World),(Instr.makeFunc fn first cap).run Tryz.prog w= .ok (.func fn first cap) w:=fun _ _ _ _=>rfl;have hmi:∀w:World,(Instr.makeInterface 34 (.agg #[.int .i64 0,.int .i64 2])).run Tryz.prog w= .ok (.iface 34 (.agg #[.int .i64 0,.int .i64 2])) w:=fun w=>by kernel_rfl
 obtain⟨W1,HW1⟩:∃W1,W1=(w.alloc (.cells #[.slice A P.length c] 24)).alloc (.cells #[.nilIface] 30):=⟨_,rfl⟩;have hfw:Fr Non w W1:=by rw[HW1];exact((Zf w).alloc _).alloc _
 have hbp:W1.heap[w.heap.size]? =some (.cells #[.slice A P.length c] 24 (0,0)):=by rw[HW1];exact blk_old (blk_new _ _ _)
 have hbr:W1.heap[w.heap.size+1]? =some (.cells #[.nilIface] 30 (0,0)):=by rw[HW1];exact blk_new' (by simp) _ _
 have HC:=Zh (pcheck_any P ok A c W1 (hr.fr hfw (fun _ _=>non _) (fun _ h=>h)) hc (by omega));have HR:=Zh hr;clear hr;have g0:=(Zc hbp).1 0 _ rfl;have HBP:=Zh hbp;clear hbp;have HBR:=Zh hbr;clear hbr;have HFW:=Zh hfw;clear hfw;have HW1L:=Zh HW1;obtain⟨r,hR⟩:∃r:Value,scCheckV P=r:=⟨_,rfl⟩;rw[hR];have HRR:=Zh hR;clear hR;go_enter_defers Tryz.func21,Tryz.ntmps21;go_upto_region 1 with fail;rw[show((w.alloc (.cells #[.slice A P.length c] 24)).alloc (.cells #[.nilIface] 30))=W1 from HW1.symm];clear HW1;go_wp2_with fail;refine HC.out.mono ?_;rintro e w2 ⟨rfl,hf2⟩;have hbr2:=Zb HBR.out hf2 (non _);have c2:=(Zc hbr2).1 0 _ rfl;have z2:=(Zc hbr2).2 0;have hbp2:=Zb HBP.out hf2 (non _);have p2:=(Zc hbp2).1 0 _ rfl;clear g0;cases hm:mayM P with
 |false=>
  have HM:=Zh hm;clear hm;simp only[Bool.false_eq_true,if_false];have hb3:=blk_set hbr2 0 (faultV 0 2);go_wp2_with fail;have c3:=(Zc hb3).1 0 _ rfl;have HF:=Zh (HFW.out.trans hf2);have HFF:=Zh (show Fr Non w (w2.setCell ⟨w.heap.size+1,0,none⟩ (faultV 0 2)) from HF.out.setCell _ _ (.inr (Nat.le_succ _)));unfold faultV at c3 HFF;simp[bodyPostD,Leaves,settle,results,Tryz.results21,go_sem,c3];exact⟨by rw[←HRR.out,scCheckV,HM.out];rfl,HFF.out⟩
 |true=>
  have HM:=Zh hm;clear hm;simp only[if_true];go_upto_region 6 with fail;obtain⟨W3,HW3⟩:∃W3,W3=w2.alloc (.cells #[.slice A P.length c,.int .i64 0,.map none,.map none] 79):=⟨_,rfl⟩;rw[←HW3];have hf3:Fr Non w2 W3:=by rw[HW3];exact(Zf w2).alloc _
  have hbw:W3.heap[w2.heap.size]? =some (.cells #[.slice A P.length c,.int .i64 0,.map none,.map none] 79 (0,0)):=by rw[HW3];exact blk_new _ _ _
  clear HW3 c2 z2 p2;have hbr3:=Zb hbr2 hf3 (non _);have hbp3:=Zb hbp2 hf3 (non _);have p3:=(Zc hbp3).1 0 _ rfl;have hz12:w.heap.size≤W1.heap.size:=HFW.out.size;have hz2:W1.heap.size≤w2.heap.size:=hf2.size;have hrl:=blk_lt HBR.out;have HF3:=Zh ((HFW.out.trans hf2).trans hf3);clear hf2 hf3;have HBW:=Zh hbw;clear hbw;have HBR3:=Zh hbr3;clear hbr3 hbr2 hbp2 hbp3;go_wp2_with fail
  go_loopw [20] (fun i wr=>∃(j:Nat) (n:Int) (v2 v3:Value),i= .int .i64 j∧j≤P.length∧scWalk P j= .ok n∧wr.heap[w2.heap.size]? =some (.cells #[.slice A P.length c,.int .i64 n,v2,v3] 79 (0,0))∧Fr (fun k=>k=w2.heap.size) W3 wr) (fun i _=>P.length-(intOf i).toNat)
  case atStart=>exact⟨0,0,_,_,rfl,by omega,rfl,HBW.out,Fr.refl _ _⟩
  case round=>
   obtain⟨j,n,v2,v3,rfl,hj,hwk,hbw,hfr⟩:=hrel;have HWK:=Zh hwk;clear hwk;have HNB:=Zh (scWalk_n P j n hj HWK.out);have HBJ:=Zh hbw;clear hbw;have hbr4:=Zb HBR3.out hfr (by omega);have HFJ:=Zh (HF3.out.then hfr fun k hk e=>by omega);have HFW3:=Zh hfr;clear hfr;by_cases hlt:j<P.length
   ·have hokF:okF P[j]=true:=by
     have h:=HM.out;simp only[mayM,Bool.and_eq_true,List.all_eq_true] at h;exact h.1 _ (List.getElem_mem hlt)
    have HSF:=Zh (scfun_any w.heap.size w2.heap.size ok A c P j hlt wr n v2 v3 HBJ.out (by omega) ⟨HR.out.fr HFJ.out (fun _ _=>non _) (fun _ h=>h),hc,hlt,hpc,hok⟩ hokF (HNB.out.1) (by have:=HNB.out.2;have:=fsizes_take P j hlt;have:=fsizes_take_le P (j+1);have h16:=HM.out;simp only[mayM,Bool.and_eq_true,decide_eq_true_eq] at h16;omega));clear hokF;go_wp2_with fail;refine HSF.out.mono ?_;intro e w4 he;unfold FnR at he;have HST:=Zh (show scWalk P (j+1)=scFun P j P[j] n by rw[scWalk,HWK.out];simp only;rw[List.getD_eq_getElem?_getD,List.getElem?_eq_getElem hlt,Option.getD_some]);cases hf:scFun P j P[j] n with
    |error x=>
     rw[hf] at he;simp only at he;obtain⟨rfl,hf4⟩:=he;have HX:=Zh (scWalk_mono P x (j+1) P.length (by omega) (HST.out.trans hf));clear hf;have hbr5:=Zb hbr4 hf4 (by omega);have HF5:=Zh (HFJ.out.then hf4 fun k hk e=>by omega);clear hf4 hbr4;go_wp2_with fail;refine leaves_cons (f:=49) (args:=#[.pointer (some ⟨w.heap.size+1,0,none⟩)]) (by simp) (by simp[go_sem]) ?_;refine(check_catch (w.heap.size+1) _ _ x.1 x.2 _ hbr5).mono ?_;rintro e u' w'' ⟨rfl,rfl,hb6,hf6⟩;have c6:=(Zc hb6).1 0 _ rfl;have HF6:=Zh (HF5.out.then hf6 fun k hk e=>by omega);clear hf6;simp[Leaves,settle,results,Tryz.results21,go_sem,c6];exact⟨by rw[←HRR.out,scCheckV,HM.out,HX.out];rfl,HF6.out⟩
    |ok m=>
     rw[hf] at he;simp only at he;obtain⟨rfl,hf4,v2',v3',hb4⟩:=he;have HX:=Zh (HST.out.trans hf);clear hf hbr4;have HF4:=Zh hf4;clear hf4;have HB4:=Zh hb4;clear hb4;go_wp2_with fail;go_roundw
     case rel=>exact⟨j+1,m,v2',v3',by go_num,by omega,HX.out,HB4.out,HFW3.out.trans HF4.out⟩
     case measure=>simp[intOf];omega
   ·have hje:j=P.length:=by omega
    subst hje;have c4:=(Zc hbr4).1 0 _ rfl;have z4:=(Zc hbr4).2 0;have hb5:=blk_set hbr4 0 .nilIface;have HF5:=Zh (show Fr Non w (wr.setCell ⟨w.heap.size+1,0,none⟩ .nilIface) from HFJ.out.setCell _ _ (.inr (Nat.le_succ _)));go_wp2_with fail;refine leaves_cons (f:=49) (args:=#[.pointer (some ⟨w.heap.size+1,0,none⟩)]) (by simp) (by simp[go_sem]) ?_;refine(check_idle (w.heap.size+1) _).mono ?_;rintro e u' w'' ⟨rfl,rfl,rfl⟩;have c6:=(Zc hb5).1 0 _ rfl;simp[Leaves,settle,results,Tryz.results21,go_sem,c6];exact⟨by rw[←HRR.out,scCheckV,HM.out,HWK.out];rfl,HF5.out⟩
end Go.Proofs.YtpkpgmnbheenbaaGreatDoor
