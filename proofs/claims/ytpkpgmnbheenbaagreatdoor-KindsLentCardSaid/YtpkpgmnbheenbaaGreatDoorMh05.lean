/- Contracts and laws, Mh05 -/
import Derived.Test.YtpkpgmnbheenbaaGreatDoorMh01
import Derived.Test.YtpkpgmnbheenbaaGreatDoorMh02
import Derived.Test.YtpkpgmnbheenbaaGreatDoorMh03
import Derived.Test.YtpkpgmnbheenbaaGreatDoorMh04
import Derived.Outline
import Derived.Deep.DeepCutAuto
import Derived.Deep.RegionHeld3
namespace Go.Proofs.YtpkpgmnbheenbaaGreatDoor
open Go.RowKit
set_option linter.unusedVariables false
set_option linter.unusedSimpArgs false
set_option maxHeartbeats 8000000
set_option maxRecDepth 100000
theorem scall (base b bk bg:Nat) (ok:Nat→Prop) (PA:Option Addr) (pc:Nat) (P:List Fu) (F:Nat):∀N,StC base b bk bg ok PA pc P F N∧BlC base b bk bg ok PA pc P F N
 |0=>by
  have h0:StC base b bk bg ok PA pc P F 0:=by
   intro s d A1 A2 A3 A4 c1 c2 c3 c4 w a hN;exfalso;have:=St.size_eq s;omega
  exact⟨h0,scblock_of base b bk bg ok PA pc P F 0 h0⟩
 |N+1=>by
  have h1:=scstmt_of base b bk bg ok PA pc P F N (scall base b bk bg ok PA pc P F N).2;exact⟨h1,scblock_of base b bk bg ok PA pc P F (N+1) h1⟩
theorem scParams_snoc (x:Pa):∀(l:List Pa) (a:Sc),scParams (l++[x]) a=match scParams l a with
  | .error y=>.error y
  | .ok a1=>a1.give x.name
 |[],a=>by simp only[List.nil_append,scParams];cases a.give x.name<;>rfl
 |y::l,a=>by
  simp only[List.cons_append,scParams];cases a.give y.name with
  |error z=>rfl
  |ok a1=>exact scParams_snoc x l a1
theorem scParams_err (r:List Pa) (z:Int×Int):∀(l:List Pa) (a:Sc),scParams l a= .error z→scParams (l++r) a= .error z
 |[],a,h=>by cases h
 |y::l,a,h=>by
  simp only[List.cons_append,scParams] at h ⊢;cases hg:a.give y.name with
  |error z=>rw[hg] at h;exact h
  |ok a1=>rw[hg] at h;exact scParams_err r z l a1 h
theorem give_n {a a1:Sc} {nm:ByteArray} (h:a.give nm= .ok a1):a1.n=a.n:=by
 unfold Sc.give at h;split at h
 ·cases h
 ·cases h;rfl
theorem scParams_n:∀(l:List Pa) (a a1:Sc),scParams l a= .ok a1→a1.n=a.n
 |[],a,a1,h=>by cases h;rfl
 |y::l,a,a1,h=>by
  simp only[scParams] at h;cases hg:a.give y.name with
  |error z=>rw[hg] at h;cases h
  |ok a2=>rw[hg] at h;exact(scParams_n l a2 a1 h).trans (give_n hg)
def FnR (b:Nat) (PV:Value) (w:World) (r:Except (Int×Int) Int) (e:Ending) (w':World):Prop:=match r with
 | .error x=>e= .panicked [{v:=faultV x.1 x.2,recovered:=false}]∧Fr (fun k=>k=b) w w'
 | .ok n=>e= .returned (.tuple #[])∧Fr (fun k=>k=b) w w'∧∃v2 v3,w'.heap[b]? =some (.cells #[PV,.int .i64 n,v2,v3] 79 (0,0))
theorem scfun_any (base b:Nat) (ok:Nat→Prop) (PA:Option Addr) (pc:Nat) (P:List Fu) (F:Nat) (hF:F<P.length) (w:World) (n:Int) (v2 v3:Value) (hb:w.heap[b]? =some (.cells #[.slice PA P.length pc,.int .i64 n,v2,v3] 79 (0,0)))
  (hbase:base≤b) (hP:ScP base ok PA pc P F w) (hok:okF P[F]=true) (hn0:0≤n) (hn1:n+St.sizes P[F].body≤1099511627000):
  Calls Tryz.prog 50 #[.pointer (some ⟨b,0,none⟩),.int .i64 F] w (FnR b (.slice PA P.length pc) w (scFun P F P[F] n)):=by
 obtain⟨g,o,A1,c1,A2,c2,A3,c3,hpa,hd,e0,e1,e2,e3,e4,r1,r2,r3⟩:=at_fu hP.rows F hF;have R1:=Zh r1;clear r1;have R2:=Zh r2;clear r2;have R3:=Zh r3;clear r3;subst hpa;have hPl:P.length≤140737488355328:=by have:=hP.hc;unfold reach at this;omega
 have hpc:=hP.hpc;have b0:=(Zc hb).1 0 _ rfl;have hblt:=blk_lt hb;have HP:=Zh hP;clear hP;have HB:=Zh hb;clear hb;generalize hf:P[F]=f at*;have HFE:=Zh hf;clear hf;have HOKF:=Zh hok;clear hok;obtain⟨W0,HW0⟩:∃W0,W0=w.alloc (.cells #[.string f.name,.slice A1 f.params.length c1,.slice A2 f.body.length c2,.bool f.sec,.slice A3 f.ret.length c3] 53):=⟨_,rfl⟩;have hf0:Fr Non w W0:=by rw[HW0];exact(Zf w).alloc _
 have hbx:W0.heap[w.heap.size]? =some (.cells #[.string f.name,.slice A1 f.params.length c1,.slice A2 f.body.length c2,.bool f.sec,.slice A3 f.ret.length c3] 53 (0,0)):=by rw[HW0];exact blk_new _ _ _
 have g0:=(Zc hbx).1 0 _ rfl;have hPr:=HP.out.fr hf0 (fun _ _=>non _);have HC:=Zh (named_ahead_any P F w.heap.size (by omega) ok _ pc f.name W0 hPr.rows hPr.hc g0);have HBX:=Zh hbx;clear hbx hPr;have HF0:=Zh hf0;have b00:=hf0.cell' b0 (non _);clear hf0 g0;have hmf:∀(fn:Fn) (first cap:Array Value) (w:World),(Instr.makeFunc fn first cap).run Tryz.prog w= .ok (.func fn first cap) w:=fun _ _ _ _=>rfl;have hmm:=@run_makeMap Tryz.prog;go_enter Tryz.func50,Tryz.ntmps50;go_wp2_with fail;rw[←HW0];clear HW0;refine HC.out.mono ?_;rintro e w1 ⟨rfl,hf1⟩;have HF1:=Zh (HF0.out.trans hf1);have hb1:=Zb HB.out HF1.out (non _);have hbx1:=Zb HBX.out hf1 (non _);have g1:=(Zc hbx1).1 1 _ rfl;have p1:=(Zc hb1).1 1 _ rfl;have p2:=(Zc hb1).1 2 _ rfl;have p3:=(Zc hb1).1 3 _ rfl;have pf:=(Zc hb1).2;have hb1lt:=blk_lt hb1;have hx1lt:=blk_lt hbx1;have HB1:=Zh hb1;clear hb1;have HBX1:=Zh hbx1;clear hbx1 hf1;generalize hq:((P.take F).any fun g=>sq g.name f.name)=q;have HQ:=Zh hq;clear hq;cases q with
 |true=>
  go_wp2_with fail;refine(scbad_any base b (.slice (some ⟨g,o,none⟩) P.length pc) w1 ⟨[],[],n⟩ 0 0 9 p1).mono ?_;rintro e w' ⟨rfl,rfl⟩;unfold Sc.err faultP;go_wp2_with fail;refine⟨rfl,?_⟩;unfold scFun;rw[HQ.out,if_pos rfl];exact⟨rfl,HF1.out.non⟩
 |false=>
  go_upto_region 4 with fail;obtain⟨W2,HW2⟩:∃W2,W2=(((w1.setCell ⟨b,2,none⟩ (.map (some w1.heap.size))).setCell ⟨b,3,none⟩ (.map (some (w1.heap.size+1)))).alloc (.map #[] 0)).alloc (.map #[] 0):=⟨_,rfl⟩;rw[←HW2];have hf2a:Fr (fun k=>k=b) w1 ((w1.setCell ⟨b,2,none⟩ (.map (some w1.heap.size))).setCell ⟨b,3,none⟩ (.map (some (w1.heap.size+1)))):=((Fr.refl (fun k=>k=b) w1).setCell _ _ (.inl rfl)).setCell _ _ (.inl rfl);have hf2:Fr (fun k=>k=b) w1 W2:=by rw[HW2];exact(hf2a.alloc _).alloc _
  obtain⟨bk,hbk⟩:∃bk,bk=w1.heap.size:=⟨_,rfl⟩;have h2:ScAt base b (.slice (some ⟨g,o,none⟩) P.length pc) W2 ⟨[],[],n⟩ bk (bk+1):=by
   have hm1:=MapS.new ((w1.setCell ⟨b,2,none⟩ (.map (some w1.heap.size))).setCell ⟨b,3,none⟩ (.map (some (w1.heap.size+1))));have hm2:=MapS.new (((w1.setCell ⟨b,2,none⟩ (.map (some w1.heap.size))).setCell ⟨b,3,none⟩ (.map (some (w1.heap.size+1)))).alloc (.map #[] 0));have hm1':=hm1.fr ((Zf _).alloc (.map #[] 0)) (non _);rw[←HW2] at hm1' hm2;have e1:((w1.setCell ⟨b,2,none⟩ (.map (some w1.heap.size))).setCell ⟨b,3,none⟩ (.map (some (w1.heap.size+1)))).heap.size=bk:=by rw[hbk];simp
   have e2:(((w1.setCell ⟨b,2,none⟩ (.map (some w1.heap.size))).setCell ⟨b,3,none⟩ (.map (some (w1.heap.size+1)))).alloc (.map #[] 0)).heap.size=bk+1:=by rw[hbk];simp
   rw[e1] at hm1';rw[e2] at hm2;refine⟨?_,hm1',hm2,by omega,hbase,by omega,by omega⟩;rw[HW2,hbk];exact Zb (blk_set (blk_set HB1.out 2 _) 3 _) (((Zf _).alloc _).alloc _) (non _)
  have hsz12:=hf2.size;have hs1:∀q,q<w.heap.size→SS b bk (bk+1) q→q=b:=fun q hq h=>by
   rcases h with h|h|h
   ·exact h
   ·omega
   ·omega
  have hxs:¬SS b bk (bk+1) w.heap.size:=fun h=>by
   rcases h with h|h|h<;>omega
  have hoks:∀q,ok q→¬SS b bk (bk+1) q:=fun q hq h=>by
   have h1:=HP.out.hok q hq;rcases h with h|h|h<;>omega
  have HFW:=Zh (HF1.out.non.trans (hf2.mono fun _ _ h=>.inl h):Fr (SS b bk (bk+1)) w W2);have hbx2:=Zb HBX1.out hf2 (by omega);have HBX2:=Zh hbx2;clear hbx2;have H2:=Zh h2;clear h2;have HS1:=Zh hs1;clear hs1;have HXS:=Zh hxs;clear hxs;have HOKS:=Zh hoks;clear hoks;have HBK:=Zh hbk;clear hf2a hf2 HW2 p1 p2 p3 pf g1 b00 b0 e0 e1 e2 e3 e4 hmm;have g1:=(Zc HBX2.out).1 1 _ rfl;have hpl:f.params.length≤140737488355328:=by have:=R1.out.2.1;unfold reach at this;omega
  have hbl:f.body.length≤140737488355328:=by have:=R2.out.2.1;unfold reach at this;omega
  go_upto_region 5 with fail
  go_loopw [39] (fun i wr=>∃k:Nat,∃ak,i= .int .i64 k∧k≤f.params.length∧scParams (f.params.take k) ⟨[],[],n⟩= .ok ak∧Fr (SS b bk (bk+1)) W2 wr∧ScAt base b (.slice (some ⟨g,o,none⟩) P.length pc) wr ak bk (bk+1)) (fun i _=>f.params.length-(intOf i).toNat)
  case atStart=>exact⟨0,⟨[],[],n⟩,rfl,by omega,rfl,Fr.refl _ _,H2.out⟩
  case round=>
   obtain⟨k,ak,rfl,hk,hsc,hfr,hs⟩:=hrel;have HSC:=Zh hsc;clear hsc;have HFR:=Zh hfr;clear hfr;have HS:=Zh hs;clear hs;by_cases hlt:k<f.params.length
   ·obtain⟨pg,po,hA1,hd1,q0,q1,q2,q3⟩:=at_pa (R1.out.2.2.fr (HFW.out.trans HFR.out) HOKS.out fun _ h=>h) k hlt;subst hA1;generalize hx:f.params[k]=x at*;have HX:=Zh hx;clear hx;have hwz:=(Zf wr).alloc (.cells #[.string x.name,.bool x.buf,.bool x.sec,.bool x.mt] 56);have HS0:=Zh (HS.out.stay hwz);clear hwz;go_wp2_with fail;refine(scgive_any base b _ _ ak bk (bk+1) x.name HS0.out).mono ?_;intro e w3 hgr;unfold GiveR at hgr;cases hgv:ak.give x.name with
    |error y=>
     rw[hgv] at hgr;obtain⟨rfl,hf3⟩:=hgr;have herr:scParams f.params ⟨[],[],n⟩= .error y:=by
      have h1:scParams (f.params.take (k+1)) ⟨[],[],n⟩= .error y:=by
       rw[take_snoc _ k hlt,HX.out,scParams_snoc,HSC.out];simp only;rw[hgv]
      have h2:=scParams_err (f.params.drop (k+1)) y _ _ h1
      rwa [List.take_append_drop] at h2
     have HE:=Zh herr;clear herr hgv;have HF3:=Zh ((HFW.out.trans HFR.out).trans (box_fr hf3).non);clear hf3;unfold faultP;go_wp2_with fail;refine⟨rfl,?_⟩;unfold scFun;rw[HQ.out,if_neg (by decide),HE.out];exact⟨rfl,HF3.out.mono fun q hq h=>HS1.out q hq h⟩
    |ok a1=>
     rw[hgv] at hgr;obtain⟨v,pw,ps,rfl,haw,hp1,hp2,hf3,h3⟩:=hgr;have hok1:scParams (f.params.take (k+1)) ⟨[],[],n⟩= .ok a1:=by
      rw[take_snoc _ k hlt,HX.out,scParams_snoc,HSC.out];simp only;rw[hgv]
     have HO:=Zh hok1;clear hok1 hgv haw;have HF3:=Zh (HFR.out.trans (box_fr hf3));clear hf3;have H3:=Zh h3;clear h3;go_wp2_with fail;go_roundw
     case rel=>exact⟨k+1,a1,by go_num,by omega,HO.out,HF3.out,H3.out⟩
     case measure=>simp[intOf];omega
   ·obtain rfl:k=f.params.length:=by omega
    have hsc2:scParams f.params ⟨[],[],n⟩= .ok ak:=by have:=HSC.out;rwa [List.take_length] at this
    have han:=scParams_n _ _ _ hsc2;have HPA:=Zh hsc2;clear hsc2;have han1:0≤ak.n:=by rw[han];exact hn0
    have han2:ak.n+St.sizes f.body≤1099511627000:=by rw[han];exact hn1
    have HAN:=Zh han;clear han;have HBX3:=Zh (Zb HBX2.out HFR.out HXS.out);clear g1;have g2:=(Zc HBX3.out).1 2 _ rfl;have HFW3:=Zh (HFW.out.trans HFR.out);obtain⟨wp,rfl⟩:∃wp:World,wp=wr:=⟨_,rfl⟩;go_upto_region 10 with fail
    go_loopw [51] (fun i wz=>∃j:Nat,∃aj awj,i= .int .i64 j∧j≤f.body.length∧scStmts P F (f.body.take j) ak []= .ok (aj,awj)∧Fr (SS b bk (bk+1)) wp wz∧ScAt base b (.slice (some ⟨g,o,none⟩) P.length pc) wz aj bk (bk+1)) (fun i _=>f.body.length-(intOf i).toNat)
    case atStart=>exact⟨0,ak,[],rfl,by omega,rfl,Fr.refl _ _,HS.out⟩
    case round=>
     obtain⟨j,aj,awj,rfl,hj,hsc,hfr,hs⟩:=hrel;have HSC:=Zh hsc;have hnk:=scStmts_n P F _ ak aj [] awj hsc;clear hsc;have hsz1:=sizes_take_le f.body j;have b1:=(Zc hs.blk).1 1 _ rfl;have bf:=(Zc hs.blk).2;have hblt3:=blk_lt hs.blk;have HFR:=Zh hfr;clear hfr;have HS:=Zh hs;clear hs;have HRR:=Zh (R2.out.2.2.fr (HFW3.out.trans HFR.out) HOKS.out (fun _ h=>h));have HBX4:=Zh (Zb HBX3.out HFR.out HXS.out);by_cases hlt:j<f.body.length
     ·obtain⟨bg,bo,B1,d1,B2,d2,B3,d3,B4,d4,hA2,hd,e0,e1,e2,e3,e4,e5,e6,e7,e8,r1,r2,r3,r4⟩:=at_st HRR.out j hlt;have HSR:=Zh (⟨r1,r2,r3,r4⟩:StRd ok _ f.body[j] B1 B2 B3 B4 d1 d2 d3 d4);clear r1 r2 r3 r4;have hsz2:=sizes_take f.body j hlt;have hsz3:=sizes_take_le f.body (j+1);have hbn:aj.n≤1099511627776:=by omega
      have hbn0:0≤aj.n:=by omega
      subst hA2;generalize hx:f.body[j]=x at*;have hxok:St.ok x 1=true:=by
       have hbo:=HOKF.out;simp only[okF,Bool.and_eq_true] at hbo;rw[←hx];exact oks_at hbo.1 j hlt
      have HX:=Zh hx;clear hx;have HXOK:=Zh hxok;clear hxok;have HW3:=Zh (fun o:Obj=>(((Fr.refl (SS b bk (bk+1)) wr).setCell ⟨b,1,none⟩ (.int .i64 (aj.n+1)) (.inl (.inl rfl))).alloc o));go_wp2_with fail;refine((scall base b bk (bk+1) ok (some ⟨g,o,none⟩) pc P F x.size).1 x 1 B1 B2 B3 B4 d1 d2 d3 d4 _ ⟨aj.kn,aj.gi,aj.n+1⟩ (Nat.le_refl _) HXOK.out (HSR.out.fr (HW3.out _) HOKS.out) (by simp only;omega) (by simp only;omega) ((HS.out.setn (aj.n+1)).stay ((Zf _).alloc _)) (HP.out.fr ((HFW3.out.trans HFR.out).trans (HW3.out _)) HOKS.out)).mono ?_;intro e w3 hst;cases hsx:scStmt P F x ⟨aj.kn,aj.gi,aj.n+1⟩ with
      |error y=>
       rw[hsx] at hst;obtain⟨rfl,hf3⟩:=hst;have herr:scStmts P F f.body ak []= .error y:=by
        have h1:scStmts P F (f.body.take (j+1)) ak []= .error y:=by
         rw[take_snoc _ j hlt,HX.out,scStmts_snoc,HSC.out];simp only;rw[hsx]
        have h2:=scStmts_err P F (f.body.drop (j+1)) _ _ _ _ h1
        rwa [List.take_append_drop] at h2
       have HE:=Zh herr;clear herr hsx;have HF3:=Zh (((HFW3.out.trans HFR.out).trans (HW3.out _)).trans hf3);clear hf3;go_wp2_with fail;refine⟨rfl,?_⟩;unfold scFun;rw[HQ.out,if_neg (by decide),HPA.out];simp only;rw[HE.out];exact⟨rfl,HF3.out.mono fun q hq h=>HS1.out q hq h⟩
      |ok p=>
       obtain⟨a2,aw2⟩:=p;rw[hsx] at hst;obtain⟨v2,rfl,haw2,hf3,h3⟩:=hst;have hok1:scStmts P F (f.body.take (j+1)) ak []= .ok (a2,awj++aw2):=by
        rw[take_snoc _ j hlt,HX.out,scStmts_snoc,HSC.out];simp only;rw[hsx]
       have HO:=Zh hok1;clear hok1 hsx haw2;have HF3:=Zh ((HFR.out.trans (HW3.out _)).trans hf3);clear hf3;have H3:=Zh h3;clear h3;go_wp2_with fail;go_roundw
       case rel=>exact⟨j+1,a2,awj++aw2,by go_num,by omega,HO.out,HF3.out,H3.out⟩
       case measure=>simp[intOf];omega
     ·obtain rfl:j=f.body.length:=by omega
      rw[List.take_length] at hnk hsz1;have hsc2:scStmts P F f.body ak []= .ok (aj,awj):=by have:=HSC.out;rwa [List.take_length] at this
      have HBD:=Zh hsc2;clear hsc2;have g4:=(Zc HBX4.out).1 4 _ rfl;have hbn:aj.n≤1099511627776:=by omega
      have hbn0:0≤aj.n:=by omega
      have HW3:=Zh ((Fr.refl (SS b bk (bk+1)) wr).setCell ⟨b,1,none⟩ (.int .i64 (aj.n+1)) (.inl (.inl rfl)));have hxb:w.heap.size≠b:=by omega
      go_wp2_with fail;refine(scexprs_any (Ex.sizes f.ret+1) f.ret ok A3 c3 base b _ _ ⟨aj.kn,aj.gi,aj.n+1⟩ bk (bk+1) (by omega) (R3.out.2.2.fr ((HFW3.out.trans HFR.out).trans HW3.out) HOKS.out fun _ h=>h) R3.out.2.1 (HS.out.setn (aj.n+1))).mono ?_;rintro e w4 ⟨he1,hf4⟩;have HF4:=Zh (((HFW3.out.trans HFR.out).trans HW3.out).trans hf4.non);have h4:=(HS.out.setn (aj.n+1)).stay hf4;clear hf4;cases hx1:Ex.askss (inM aj.kn) f.ret with
      |false=>
       rw[hx1] at he1;obtain rfl:=he1.f;clear he1;have HXR:=Zh hx1;clear hx1 h4;go_wp2_with fail;refine⟨rfl,?_⟩;unfold scFun;rw[HQ.out,if_neg (by decide),HPA.out];simp only;rw[HBD.out];simp only;rw[HXR.out];exact⟨rfl,HF4.out.mono fun q hq h=>HS1.out q hq h⟩
      |true=>
       rw[hx1] at he1;obtain rfl:=he1.t;clear he1;have HXR:=Zh hx1;clear hx1;have k1:=(Zc h4.blk).1 1 _ rfl;have kf:=(Zc h4.blk).2;have HBF:=Zh h4.blk;have hblt4:=blk_lt h4.blk;clear h4 b1 bf;go_wp2_with fail
       go_end0
       unfold scFun;rw[HQ.out,if_neg (by decide),HPA.out];simp only;rw[HBD.out];simp only;rw[HXR.out,if_pos rfl];exact⟨rfl,(HF4.out.mono fun q hq h=>HS1.out q hq h).setCell _ _ (.inl rfl),_,_,blk_set HBF.out 1 _⟩
theorem pletter_any (c:UInt8) (w:World):Calls Tryz.prog 152 #[vu8 c] w fun e w'=>e= .returned (.bool (letterM c))∧w=w':=by
 have hc:=c.toNat_lt;go_enter Tryz.func152,Tryz.ntmps152;go_wp2_with fail;all_goals
  go_ret;refine⟨ret_bool ?_,rfl⟩;rw[Bool.eq_iff_iff];simp[letterM];try omega
theorem pdigit_any (c:UInt8) (w:World):Calls Tryz.prog 153 #[vu8 c] w fun e w'=>e= .returned (.bool (digitM c))∧w=w':=by
 have hc:=c.toNat_lt;go_enter Tryz.func153,Tryz.ntmps153;go_wp2_with fail;all_goals
  go_ret;refine⟨ret_bool ?_,rfl⟩;rw[Bool.eq_iff_iff];simp[digitM];try omega
theorem ppart_any (c:UInt8) (w:World):Calls Tryz.prog 151 #[vu8 c] w fun e w'=>e= .returned (.bool (partM c))∧w=w':=by
 cases hl:letterM c with
 |true=>
  go_enter Tryz.func151,Tryz.ntmps151;go_wp2_with fail;refine(pletter_any _ _).mono ?_;rintro e w1 ⟨rfl,rfl⟩;go_wp2_with fail;go_ret;exact⟨ret_bool (by simp[partM,hl]),rfl⟩
 |false=>
  go_enter Tryz.func151,Tryz.ntmps151;go_wp2_with fail;refine(pletter_any _ _).mono ?_;rintro e w1 ⟨rfl,rfl⟩;go_wp2_with fail;refine(pdigit_any _ _).mono ?_;rintro e w1 ⟨rfl,rfl⟩;go_wp2_with fail;go_ret;exact⟨ret_bool (by simp[partM,hl]),rfl⟩
theorem word_list (s:ByteArray):wordM s=((s.toList==[108,101,116])||(s.toList==[115,101,99,114,101,116])||(s.toList==[98,117,102])||(s.toList==[105,102])||(s.toList==[101,108,115,101])||(s.toList==[119,104,105,108,101])||(s.toList==[102,111,114])||(s.toList==[118,105,101,119])||(s.toList==[101,100,105,116])||(s.toList==[109,111,118,101])||(s.toList==[111,112,101,110])||(s.toList==[99,97,108,108])||(s.toList==[115,101,97,108])||(s.toList==[102,110])||(s.toList==[114,101,116,117,114,110])||(s.toList==[110,117,109])):=by
 have key:∀x:ByteArray,sq x s=(s.toList==x.data.toList):=fun x=>by
  rw[sq,ByteArray.toList_eq,Bool.eq_iff_iff,beq_iff_eq,beq_iff_eq,eq_comm]
 simp only[wordM,inM,wordsM,List.any_cons,List.any_nil,key,Bool.or_false,Bool.or_assoc]
theorem pword_any (s:ByteArray) (w:World):Calls Tryz.prog 154 #[.string s] w fun e w'=>e= .returned (.bool (wordM s))∧w=w':=by
 go_enter Tryz.func154,Tryz.ntmps154;go_wp2_with fail;all_goals
  go_ret;refine⟨ret_bool ?_,rfl⟩;rw[word_list]
  simp_all
def spanN (p:UInt8→Bool) (l:List UInt8):Nat:=(l.takeWhile p).length
theorem spanN_at {p:UInt8→Bool} {l:List UInt8} (k:Nat) (hk:k≤l.length) (h:∀j,j<k→∀hj:j<l.length,p l[j]=true) (he:k=l.length∨∃hk':k<l.length,p l[k]=false):spanN p l=k:=by
 induction l generalizing k with
 |nil=>simp at hk;subst hk;rfl
 |cons x l ih=>
  cases k with
  |zero=>
   rcases he with he|⟨_,he⟩
   ·simp at he
   ·simp at he;simp[spanN,he]
  |succ k=>
   have h0:=h 0 (by omega) (by simp);simp at h0;have:=ih k (by simpa using hk) (fun j hj hj'=>by have:=h (j+1) (by omega) (by simpa using hj');simpa using this) (by
    rcases he with he|⟨h1,he⟩
    ·exact .inl (by simpa using he)
    ·exact .inr ⟨by simpa using h1,by simpa using he⟩)
   simp only[spanN] at this ⊢;rw[List.takeWhile_cons_of_pos h0,List.length_cons,this]
theorem ppiece_any (s:ByteArray) (hs:s.size≤140737488355328) (w:World):Calls Tryz.prog 155 #[.string s,.func (.func 151) #[] #[]] w fun e w'=>e= .returned (.string (s.extract 0 (spanN partM s.data.toList)))∧w=w':=by
 go_enter Tryz.func155,Tryz.ntmps155;go_wp2_with fail
 go_loop [5] (fun i=>∃k:Nat,i= .int .i64 k∧k≤s.size∧∀j,j<k→∀hj:j<s.data.toList.length,partM s.data.toList[j]=true) (fun i=>s.size-(intOf i).toNat)
 case atStart=>exact⟨0,rfl,by omega,fun j hj=>by omega⟩
 case round=>
  obtain⟨k,rfl,hk,hno⟩:=hrel;have HN:=Zh hno;clear hno;by_cases hlt:k<s.size
  ·have hlt':k<s.data.size:=hlt;have hsk:s.data.toList[k]'(by simpa using hlt')=s[k]:=rfl;have HS:=Zh hsk;clear hsk;have hdk:decide ((k:Int)<(s.size:Int))=true:=by simp;omega
   go_wp2_with fail;refine(ppart_any _ _).mono ?_;rintro e w1 ⟨rfl,rfl⟩;cases hp:partM s[k] with
   |true=>
    have HP:=Zh hp;clear hp;go_wp2_with fail
    go_round
    case rel=>exact⟨k+1,by go_num,by omega,till HN.out fun _=>by rw[HS.out];exact HP.out⟩
    case measure=>simp[intOf];omega
   |false=>
    have HP:=Zh hp;clear hp;go_wp2_with fail;go_ret;refine⟨?_,rfl⟩;rw[spanN_at k (by simpa using Nat.le_of_lt hlt') (fun j hj hj'=>HN.out j hj hj') (.inr ⟨by simpa using hlt',by rw[HS.out];exact HP.out⟩)];rfl
  ·have hdk:decide ((k:Int)<(s.size:Int))=false:=by simp;omega
   obtain rfl:k=s.size:=by omega
   go_wp2_with fail;go_ret;refine⟨?_,rfl⟩;have hl:s.data.toList.length=s.size:=Array.length_toList;rw[spanN_at s.size (Nat.le_of_eq hl.symm) (fun j hj hj'=>HN.out j hj hj') (.inl hl.symm)];have he:s.extract 0 s.size=s:=by simp
   rw[he];rfl
theorem piece_eq (s:ByteArray):sq (s.extract 0 (spanN partM s.data.toList)) s=s.data.toList.all partM:=by
 have hdata:(s.extract 0 (spanN partM s.data.toList)).data.toList=s.data.toList.take (spanN partM s.data.toList):=by
  rw[ByteArray.data_extract,Array.toList_extract];simp
 rw[sq,hdata];generalize s.data.toList=l;have htw:l.take (spanN partM l)=l.takeWhile partM:=by
  have:l.takeWhile partM<+:l:=List.takeWhile_prefix _;rw[spanN];exact(List.prefix_iff_eq_take.1 this).symm
 rw[htw,Bool.eq_iff_iff,beq_iff_eq,List.all_eq_true];constructor
 ·intro h x hx;rw[←h] at hx;exact List.all_eq_true.1 (List.all_takeWhile (p:=partM) (l:=l)) x hx
 ·intro h;have key:∀l:List UInt8,(∀x∈l,partM x=true)→l.takeWhile partM=l:=by
   intro l
   induction l with
   |nil=>intro _;rfl
   |cons x l ih=>intro h;rw[List.takeWhile_cons_of_pos (h x (by simp)),ih fun y hy=>h y (by simp[hy])]
  exact key l h
theorem pnamed_any (s:ByteArray) (w:World):Calls Tryz.prog 112 #[.string s] w fun e w'=>e= .returned (.bool (namedM s))∧w=w':=by
 cases he:emp s with
 |true=>
  have he':=he;rw[←toemp] at he';have he2:(!s.toList.isEmpty)=false:=by rw[he'];rfl
  go_enter Tryz.func112,Tryz.ntmps112;go_wp2_with fail;go_ret;exact⟨ret_bool (by simp[namedM,he]),rfl⟩
 |false=>
  have he':=he;rw[←toemp] at he';have he2:(!s.toList.isEmpty)=true:=by rw[he'];rfl
  have hp:0<s.size:=by
   rcases Nat.eq_zero_or_pos s.size with h|h
   ·simp[emp,h] at he
   ·exact h
  have hd:s.data.getD 0 0=s[0]:=by have hp':0<s.data.size:=hp;rw[Array.getD,dif_pos hp'];rfl
  by_cases h16:s.size≤16
  ·have h16':decide ((s.size:Int)≤16)=true:=by simp;omega
   cases hl:letterM s[0] with
   |false=>
    have HF:=Zh (show namedM s=false by simp[namedM,hd,hl]);clear hd;have H1:=Zh he;clear he;go_enter Tryz.func112,Tryz.ntmps112;go_wp2_with fail;refine(pletter_any _ _).mono ?_;rintro e w1 ⟨rfl,rfl⟩;go_wp2_with fail;go_ret;exact⟨ret_bool HF.out.symm,rfl⟩
   |true=>
    cases hw:wordM s with
    |true=>
     have HF:=Zh (show namedM s=false by simp[namedM,hw]);clear hd;have H1:=Zh he;clear he;go_enter Tryz.func112,Tryz.ntmps112;go_wp2_with fail;refine(pletter_any _ _).mono ?_;rintro e w1 ⟨rfl,rfl⟩;go_wp2_with fail;refine(pword_any _ _).mono ?_;rintro e w1 ⟨rfl,rfl⟩;go_wp2_with fail;go_ret;exact⟨ret_bool HF.out.symm,rfl⟩
    |false=>
     have HF:=Zh (show namedM s=s.data.toList.all partM by simp[namedM,he,h16,hd,hl,hw]);clear hd;have H1:=Zh he;clear he;go_enter Tryz.func112,Tryz.ntmps112;go_wp2_with fail;refine(pletter_any _ _).mono ?_;rintro e w1 ⟨rfl,rfl⟩;go_wp2_with fail;refine(pword_any _ _).mono ?_;rintro e w1 ⟨rfl,rfl⟩;go_wp2_with fail;refine(ppiece_any s (by omega) _).mono ?_;rintro e w1 ⟨rfl,rfl⟩;have hpe:=piece_eq s;rw[←tosq] at hpe;generalize s.extract 0 (spanN partM s.data.toList)=t at*;have HPE:=Zh hpe;clear hpe;go_wp2_with fail;go_ret;exact⟨ret_bool (by rw[HF.out,HPE.out]),rfl⟩
  ·have h16':decide ((s.size:Int)≤16)=false:=by simp;omega
   have HF:=Zh (show namedM s=false by simp[namedM,h16]);have H1:=Zh he;clear he;go_enter Tryz.func112,Tryz.ntmps112;go_wp2_with fail;go_ret;exact⟨ret_bool HF.out.symm,rfl⟩
theorem ixex_any (K:FuncId) (hK:∀(args:Array Value) (w:World),(callFunc K args).run Tryz.prog w= .ok (.enter K args) w) (cap:Array Value) (p:Ex→Bool) (l:List Ex) (ok:Nat→Prop) (A:Option Addr) (c:Nat) (w:World) (hr:RdRows ok w 5 A 0 (Ex.ds l)) (hc:l.length*64≤reach)
  (hcl:∀(k:Nat) (hk:k<l.length) (A':Option Addr) (c':Nat) (w1:World),Fr Non w w1→l[k].kids.length≤c'→l[k].kids.length*64≤reach→RdRows ok w1 5 A' 0 (Ex.ds l[k].kids)→Calls Tryz.prog K (#[exV l[k].kind l[k].num l[k].name l[k].op A' l[k].kids.length c']++cap) w1 fun e w'=>e= .returned (.bool (p l[k]))∧Fr Non w1 w'):
  Calls Tryz.prog 191 #[.slice A l.length c,.func (.func K) #[] cap] w fun e w'=>(∃i:Int,e= .returned (.int .i64 i)∧decide (0≤i)=l.any p)∧Fr Non w w':=by
 have hlen:l.length≤140737488355328:=by unfold reach at hc;omega
 have HR:=Zh hr;clear hr;have HC:=Zh hcl;clear hcl;go_enter Tryz.func191,Tryz.ntmps191;go_wp2_with fail
 go_loopw [8] (fun i wr=>∃k:Nat,i= .int .i64 k∧k≤l.length∧Fr Non w wr∧∀j,j<k→∀hj:j<l.length,p l[j]=false) (fun i _=>l.length-(intOf i).toNat)
 case atStart=>exact⟨0,rfl,by omega,Zf w,fun j hj=>by omega⟩
 case round=>
  obtain⟨k,rfl,hk,hfr,hno⟩:=hrel;have HN:=Zh hno;clear hno;have hrr:=HR.out.fr hfr (fun _ _=>non _) (fun _ h=>h);have HF:=Zh hfr;clear hfr;by_cases hlt:k<l.length
  ·obtain⟨g,o,A',c',rfl,hd,e0,e1,e2,e3,e4,p1,q1,r1⟩:=at_ex hrr k hlt;have R1:=Zh r1;clear hrr r1;go_wp2_with fail;refine(HC.out k hlt A' c' wr HF.out p1 q1 R1.out).mono ?_;rintro e w2 ⟨rfl,hf2⟩;generalize hp:p l[k]=q;have HP:=Zh hp;clear hp;cases q with
   |true=>
    go_wp2_with fail;go_ret;refine⟨⟨_,rfl,?_⟩,HF.out.trans hf2⟩;rw[any_true_of k hlt HP.out];simp
   |false=>
    go_wp2_with fail;go_roundw
    case rel=>exact⟨k+1,by go_num,by omega,HF.out.trans hf2,till HN.out fun _=>HP.out⟩
    case measure=>simp[intOf];omega
  ·go_wp2_with fail;go_ret;refine⟨⟨_,rfl,?_⟩,HF.out⟩;rw[any_false_of fun j hj=>HN.out j (by omega) hj];rfl
theorem coex_any (K:FuncId) (hK:∀(args:Array Value) (w:World),(callFunc K args).run Tryz.prog w= .ok (.enter K args) w) (cap:Array Value) (p:Ex→Bool) (l:List Ex) (ok:Nat→Prop) (A:Option Addr) (c:Nat) (w:World) (hr:RdRows ok w 5 A 0 (Ex.ds l)) (hc:l.length*64≤reach)
  (hcl:∀(k:Nat) (hk:k<l.length) (A':Option Addr) (c':Nat) (w1:World),Fr Non w w1→l[k].kids.length≤c'→l[k].kids.length*64≤reach→RdRows ok w1 5 A' 0 (Ex.ds l[k].kids)→Calls Tryz.prog K (#[exV l[k].kind l[k].num l[k].name l[k].op A' l[k].kids.length c']++cap) w1 fun e w'=>e= .returned (.bool (p l[k]))∧Fr Non w1 w'):
  Calls Tryz.prog 183 #[.slice A l.length c,.func (.func K) #[] cap] w fun e w'=>e= .returned (.bool (l.any p))∧Fr Non w w':=by
 have h:=ixex_any K hK cap p l ok A c w hr hc hcl;clear hcl hK;have H:=Zh h;clear h;go_enter Tryz.func183,Tryz.ntmps183;go_wp2_with fail;refine H.out.mono ?_;rintro e w2 ⟨⟨i,rfl,hi⟩,hf2⟩;have HI:=Zh hi;clear hi;go_wp2_with fail;go_ret;exact⟨ret_bool HI.out,hf2⟩
theorem enter209:∀(args:Array Value) (w:World),(callFunc 184 args).run Tryz.prog w= .ok (.enter 184 args) w:=fun _ _=>by kernel_rfl
def PMay (N:Nat):Prop:=∀(k:UInt8) (n:UInt64) (nm:ByteArray) (o:UInt8) (l:List Ex) (ok:Nat→Prop) (A:Option Addr) (c deep:Nat) (w:World),Ex.size (.mk k n nm o l)≤N→RdRows ok w 5 A 0 (Ex.ds l)→l.length≤c→l.length*64≤reach→deep≤1000→
 Calls Tryz.prog 174 #[exV k n nm o A l.length c,.int .i64 deep] w fun e w'=>e= .returned (.bool (Ex.may (.mk k n nm o l) deep))∧Fr Non w w'
theorem may1_of (N:Nat) (IH:PMay N) (k:UInt8) (n:UInt64) (nm:ByteArray) (o:UInt8) (l:List Ex) (ok:Nat→Prop) (A:Option Addr) (c deep bd:Nat) (w:World) (hN:Ex.size (.mk k n nm o l)≤N) (hr:RdRows ok w 5 A 0 (Ex.ds l)) (h1:l.length≤c) (h2:l.length*64≤reach) (h3:deep≤40)
  (hd:w.cell? ⟨bd,0,none⟩=some (.int .i64 deep)):
  Calls Tryz.prog 184 #[exV k n nm o A l.length c,.pointer (some ⟨bd,0,none⟩)] w fun e w'=>e= .returned (.bool (!Ex.may (.mk k n nm o l) (deep+1)))∧Fr Non w w':=by
 have hlt:=World.block_lt_of_cell? w _ hd;have h:=IH k n nm o l ok A c (deep+1) (w.alloc (.cells #[vu8 k,vu64 n,.string nm,vu8 o,.slice A l.length c] 48)) hN (hr.fr ((Zf w).alloc _) (fun _ _=>non _) (fun _ h=>h)) h1 h2 (by omega);have H:=Zh h;clear h;have ec:((deep+1:Nat):Int)=(deep:Int)+1:=by omega
 have EC:=Zh ec;clear ec;clear hr;go_enter Tryz.func184,Tryz.ntmps184;go_wp2_with fail;have hh:=H.out;rw[EC.out] at hh;refine hh.mono ?_;rintro e w2 ⟨rfl,hf2⟩;go_wp2_with fail;go_ret;exact⟨rfl,box_fr hf2⟩
theorem sign_some (o:UInt8):emp (signM o)= !(decide (1≤o.toNat∧o.toNat≤14)):=by
 have key:∀n:Fin 256,emp (signM (UInt8.ofNat n.val))= !(decide (1≤n.val∧n.val≤14)):=by decide+kernel
 have:=key ⟨o.toNat,o.toNat_lt⟩;simpa using this
theorem may_mk (k:UInt8) (n:UInt64) (nm:ByteArray) (o:UInt8) (l:List Ex) (d:Nat):Ex.may (.mk k n nm o l) d=(decide (d≤40)&&(if k.toNat=1 then emp nm&&o.toNat==0&&l.length==0
  else if k.toNat=2∨k.toNat=4 then n.toNat==0&&namedM nm&&o.toNat==0&&l.length==0
  else if k.toNat=3 then n.toNat==0&&emp nm&&decide (1≤o.toNat∧o.toNat≤14)&&l.length==2
  else if k.toNat=5 then n.toNat==0&&namedM nm&&o.toNat==0&&l.length==1
  else false)&& !l.any fun x=> !Ex.may x (d+1)):=by
 have h1:shapeM (.mk k n nm o l)=(if k.toNat=1 then emp nm&&o.toNat==0&&l.length==0
  else if k.toNat=2∨k.toNat=4 then n.toNat==0&&namedM nm&&o.toNat==0&&l.length==0
  else if k.toNat=3 then n.toNat==0&&emp nm&& !emp (signM o)&&l.length==2
  else if k.toNat=5 then n.toNat==0&&namedM nm&&o.toNat==0&&l.length==1
  else false):=rfl
 rw[Ex.may,h1,mays_all,sign_some,Bool.not_not];congr 1;rw[Bool.eq_iff_iff];simp
theorem pmay_of (N:Nat) (IH:PMay N):PMay (N+1):=by
 intro k n nm o l ok A c deep w hN hr h1 h2 h3;obtain⟨W0,HW0⟩:∃W0,W0=(w.alloc (.cells #[vu8 k,vu64 n,.string nm,vu8 o,.slice A l.length c] 48)).alloc (.cells #[.int .i64 deep] 3):=⟨_,rfl⟩;have hf0:Fr Non w W0:=by rw[HW0];exact((Zf w).alloc _).alloc _
 have hbe:W0.heap[w.heap.size]? =some (.cells #[vu8 k,vu64 n,.string nm,vu8 o,.slice A l.length c] 48 (0,0)):=by rw[HW0];exact Zb (blk_new _ _ _) ((Zf _).alloc _) (non _)
 have hbd:W0.heap[w.heap.size+1]? =some (.cells #[.int .i64 deep] 3 (0,0)):=by rw[HW0];exact blk_new' (by simp) _ _
 have d0:=(Zc hbd).1 0 _ rfl;have e0:=(Zc hbe).1 0 _ rfl;have e1:=(Zc hbe).1 1 _ rfl;have e2:=(Zc hbe).1 2 _ rfl;have e3:=(Zc hbe).1 3 _ rfl;have e4:=(Zc hbe).1 4 _ rfl;have HD:=Zh hbd;clear hbd;have HE:=Zh hbe;clear hbe;have HR:=Zh (hr.fr hf0 (fun _ _=>non _) (fun _ h=>h));clear hr;have HF0:=Zh hf0;clear hf0;have hlen:l.length≤140737488355328:=by unfold reach at h2;omega
 have hsz:Ex.size (.mk k n nm o l)=1+Ex.sizes l:=rfl;have HM:=Zh (may_mk k n nm o l deep);have hn64:=n.toNat_lt;have ho8:=o.toNat_lt;by_cases hdp:deep≤40
 ·have hdec:decide ((40:Int)<(deep:Int))=false:=by simp;omega
  have hany:Calls Tryz.prog 183 #[.slice A l.length c,.func (.func 184) #[] #[.pointer (some ⟨w.heap.size+1,0,none⟩)]] W0 fun e w'=>e= .returned (.bool (l.any fun x=> !Ex.may x (deep+1)))∧Fr Non W0 w':=by
   refine coex_any _ enter209 _ (fun x=> !Ex.may x (deep+1)) l ok A c W0 HR.out h2 fun j hj A' c' w1 hf1 q1 q2 r1=>?_;have hsj:=size_le l j hj;generalize hx:l[j]=x at*;have:=may1_of N IH x.kind x.num x.name x.op x.kids ok A' c' deep (w.heap.size+1) w1 (by rw[ex_eta];omega) r1 q1 q2 hdp (hf1.cell' d0 (non _));rw[ex_eta] at this;exact this
  have HA:=Zh hany;clear hany;by_cases k1:k.toNat=1
  ·have f1:((k.toNat:Int)==1)=true:=by simp;omega
   have f1':((k.toNat:Int)!=1)=false:=by simp;omega
   have f3:((k.toNat:Int)==3)=false:=by simp;omega
   have hm:Ex.may (.mk k n nm o l) deep=((emp nm&&o.toNat==0&&l.length==0)&& !l.any fun x=> !Ex.may x (deep+1)):=by rw[HM.out,decide_eq_true hdp,if_pos k1];rfl
   have HM1:=Zh hm;clear hm k1 HM;go_enter Tryz.func174,Tryz.ntmps174;go_wp2_with fail;all_goals first
    |(go_ret;refine⟨ret_bool ?_,((Zf w).alloc _).alloc _⟩;rw[HM1.out];(try simp only[toemp] at*);(first|(simp_all [i1,i2];done)|(simp_all [i1,i2];omega)))
    |(rw[←HW0];refine HA.out.mono ?_;rintro e w2 ⟨rfl,hf2⟩;have HF2:=Zh (HF0.out.trans hf2);clear hf2;generalize hq:(l.any fun x=> !Ex.may x (deep+1))=q at*;clear hq;go_wp2_with fail;go_ret;refine⟨ret_bool ?_,HF2.out⟩;rw[HM1.out];(try simp only[toemp] at*);(first|(simp_all [i1,i2];done)|(simp_all [i1,i2];omega)))
  ·by_cases k2:k.toNat=2
   ·have hek:namedM nm=true→emp nm=false:=fun h=>by simp[namedM] at h;exact h.1.1.1.1
    have f1:((k.toNat:Int)==1)=false:=by simp;omega
    have f2:((k.toNat:Int)==2)=true:=by simp;omega
    have f3:((k.toNat:Int)==3)=false:=by simp;omega
    have f1':((k.toNat:Int)!=1)=true:=by simp;omega
    have hm:Ex.may (.mk k n nm o l) deep=((n.toNat==0&&namedM nm&&o.toNat==0&&l.length==0)&& !l.any fun x=> !Ex.may x (deep+1)):=by rw[HM.out,decide_eq_true hdp,if_neg k1,if_pos (.inl k2)];rfl
    have HM1:=Zh hm;clear hm HM;clear k1 k2;go_enter Tryz.func174,Tryz.ntmps174;go_wp2_with (go_at_call 112;refine(pnamed_any nm _).mono ?_;rintro e w1 ⟨rfl,rfl⟩);all_goals first
     |(go_ret;refine⟨ret_bool ?_,((Zf w).alloc _).alloc _⟩;rw[HM1.out];(try simp only[toemp] at*);(first|(simp_all [i1,i2];done)|(simp_all [i1,i2];omega)))
     |(rw[←HW0];refine HA.out.mono ?_;rintro e w2 ⟨rfl,hf2⟩;have HF2:=Zh (HF0.out.trans hf2);clear hf2;generalize hq:(l.any fun x=> !Ex.may x (deep+1))=q at*;clear hq;go_wp2_with fail;go_ret;refine⟨ret_bool ?_,HF2.out⟩;rw[HM1.out];(try simp only[toemp] at*);(first|(simp_all [i1,i2];done)|(simp_all [i1,i2];omega)))
   by_cases k4:k.toNat=4
   ·have hek:namedM nm=true→emp nm=false:=fun h=>by simp[namedM] at h;exact h.1.1.1.1
    have f1:((k.toNat:Int)==1)=false:=by simp;omega
    have f2:((k.toNat:Int)==2)=false:=by simp;omega
    have f4:((k.toNat:Int)==4)=true:=by simp;omega
    have f3:((k.toNat:Int)==3)=false:=by simp;omega
    have f1':((k.toNat:Int)!=1)=true:=by simp;omega
    have hm:Ex.may (.mk k n nm o l) deep=((n.toNat==0&&namedM nm&&o.toNat==0&&l.length==0)&& !l.any fun x=> !Ex.may x (deep+1)):=by rw[HM.out,decide_eq_true hdp,if_neg k1,if_pos (.inr k4)];rfl
    have HM1:=Zh hm;clear hm HM;clear k1 k2 k4;go_enter Tryz.func174,Tryz.ntmps174;go_wp2_with (go_at_call 112;refine(pnamed_any nm _).mono ?_;rintro e w1 ⟨rfl,rfl⟩);all_goals first
     |(go_ret;refine⟨ret_bool ?_,((Zf w).alloc _).alloc _⟩;rw[HM1.out];(try simp only[toemp] at*);(first|(simp_all [i1,i2];done)|(simp_all [i1,i2];omega)))
     |(rw[←HW0];refine HA.out.mono ?_;rintro e w2 ⟨rfl,hf2⟩;have HF2:=Zh (HF0.out.trans hf2);clear hf2;generalize hq:(l.any fun x=> !Ex.may x (deep+1))=q at*;clear hq;go_wp2_with fail;go_ret;refine⟨ret_bool ?_,HF2.out⟩;rw[HM1.out];(try simp only[toemp] at*);(first|(simp_all [i1,i2];done)|(simp_all [i1,i2];omega)))
   by_cases k3:k.toNat=3
   ·have hod:decide ((o.toNat:Int)<1)= !decide (1≤o.toNat):=by rw[Bool.eq_iff_iff];simp<;>omega
    have hod2:decide ((14:Int)<(o.toNat:Int))= !decide (o.toNat≤14):=by rw[Bool.eq_iff_iff];simp<;>omega
    have f1:((k.toNat:Int)==1)=false:=by simp;omega
    have f2:((k.toNat:Int)==2)=false:=by simp;omega
    have f4:((k.toNat:Int)==4)=false:=by simp;omega
    have f5:((k.toNat:Int)==5)=false:=by simp;omega
    have f3:((k.toNat:Int)==3)=true:=by simp;omega
    have f1':((k.toNat:Int)!=1)=true:=by simp;omega
    have hm:Ex.may (.mk k n nm o l) deep=((n.toNat==0&&emp nm&&decide (1≤o.toNat∧o.toNat≤14)&&l.length==2)&& !l.any fun x=> !Ex.may x (deep+1)):=by rw[HM.out,decide_eq_true hdp,if_neg k1,if_neg (by omega),if_pos k3];rfl
    have HM1:=Zh hm;clear hm HM;clear k1 k2 k3 k4;go_enter Tryz.func174,Tryz.ntmps174;go_wp2_with (go_at_call 112;refine(pnamed_any nm _).mono ?_;rintro e w1 ⟨rfl,rfl⟩);all_goals first
     |(go_ret;refine⟨ret_bool ?_,((Zf w).alloc _).alloc _⟩;rw[HM1.out];(try simp only[toemp] at*);(first|(simp_all [i1,i2];done)|(simp_all [i1,i2];omega)))
     |(rw[←HW0];refine HA.out.mono ?_;rintro e w2 ⟨rfl,hf2⟩;have HF2:=Zh (HF0.out.trans hf2);clear hf2;generalize hq:(l.any fun x=> !Ex.may x (deep+1))=q at*;clear hq;go_wp2_with fail;go_ret;refine⟨ret_bool ?_,HF2.out⟩;rw[HM1.out];(try simp only[toemp] at*);(first|(simp_all [i1,i2];done)|(simp_all [i1,i2];omega)))
   by_cases k5:k.toNat=5
   ·have hek:namedM nm=true→emp nm=false:=fun h=>by simp[namedM] at h;exact h.1.1.1.1
    have f1:((k.toNat:Int)==1)=false:=by simp;omega
    have f2:((k.toNat:Int)==2)=false:=by simp;omega
    have f4:((k.toNat:Int)==4)=false:=by simp;omega
    have f5:((k.toNat:Int)==5)=true:=by simp;omega
    have f3:((k.toNat:Int)==3)=false:=by simp;omega
    have f1':((k.toNat:Int)!=1)=true:=by simp;omega
    have hm:Ex.may (.mk k n nm o l) deep=((n.toNat==0&&namedM nm&&o.toNat==0&&l.length==1)&& !l.any fun x=> !Ex.may x (deep+1)):=by rw[HM.out,decide_eq_true hdp,if_neg k1,if_neg (by omega),if_neg k3,if_pos k5];rfl
    have HM1:=Zh hm;clear hm HM;clear k1 k2 k3 k4 k5;go_enter Tryz.func174,Tryz.ntmps174;go_wp2_with (go_at_call 112;refine(pnamed_any nm _).mono ?_;rintro e w1 ⟨rfl,rfl⟩);all_goals first
     |(go_ret;refine⟨ret_bool ?_,((Zf w).alloc _).alloc _⟩;rw[HM1.out];(try simp only[toemp] at*);(first|(simp_all [i1,i2];done)|(simp_all [i1,i2];omega)))
     |(rw[←HW0];refine HA.out.mono ?_;rintro e w2 ⟨rfl,hf2⟩;have HF2:=Zh (HF0.out.trans hf2);clear hf2;generalize hq:(l.any fun x=> !Ex.may x (deep+1))=q at*;clear hq;go_wp2_with fail;go_ret;refine⟨ret_bool ?_,HF2.out⟩;rw[HM1.out];(try simp only[toemp] at*);(first|(simp_all [i1,i2];done)|(simp_all [i1,i2];omega)))
   ·have f1:((k.toNat:Int)==1)=false:=by simp;omega
    have f2:((k.toNat:Int)==2)=false:=by simp;omega
    have f4:((k.toNat:Int)==4)=false:=by simp;omega
    have f5:((k.toNat:Int)==5)=false:=by simp;omega
    have f3:((k.toNat:Int)==3)=false:=by simp;omega
    have hm:Ex.may (.mk k n nm o l) deep=false:=by rw[HM.out,if_neg k1,if_neg (by omega),if_neg k3,if_neg k5];simp
    have HM1:=Zh hm;clear hm HM k1 k2 k3 k4 k5;go_enter Tryz.func174,Tryz.ntmps174;go_wp2_with fail;go_ret;exact⟨ret_bool HM1.out.symm,((Zf w).alloc _).alloc _⟩
 ·have hdec:decide ((40:Int)<(deep:Int))=true:=by simp;omega
  have hm:Ex.may (.mk k n nm o l) deep=false:=by rw[HM.out,decide_eq_false hdp];rfl
  have HM1:=Zh hm;clear hm HM;go_enter Tryz.func174,Tryz.ntmps174;go_wp2_with fail;go_ret;exact⟨ret_bool HM1.out.symm,((Zf w).alloc _).alloc _⟩
theorem pmay_all:∀N,PMay N
 |0=>fun k n nm o l ok A c deep w hN=>by
  have:Ex.size (.mk k n nm o l)=1+Ex.sizes l:=rfl;omega
 |N+1=>pmay_of N (pmay_all N)
theorem pecheck_any (e:Ex) (ok:Nat→Prop) (A:Option Addr) (c:Nat) (w:World) (hr:RdRows ok w 5 A 0 (Ex.ds e.kids)) (h1:e.kids.length≤c) (h2:e.kids.length*64≤reach):
  Calls Tryz.prog 156 #[exV e.kind e.num e.name e.op A e.kids.length c] w fun r w'=>r= .returned (.int .i64 (if Ex.may e 1 then 0 else 2))∧Fr Non w w':=by
 have h:=pmay_all e.size e.kind e.num e.name e.op e.kids ok A c 1 (w.alloc (.cells #[vu8 e.kind,vu64 e.num,.string e.name,vu8 e.op,.slice A e.kids.length c] 48)) (by rw[ex_eta];exact Nat.le_refl _) (hr.fr ((Zf w).alloc _) (fun _ _=>non _) (fun _ h=>h)) h1 h2 (by omega);rw[ex_eta] at h;have H:=Zh h;clear h hr;generalize hq:Ex.may e 1=q at*;clear hq;cases q with
 |true=>
  go_enter Tryz.func156,Tryz.ntmps156;go_wp2_with fail;refine H.out.mono ?_;rintro r w2 ⟨rfl,hf2⟩;go_wp2_with fail;go_ret;exact⟨rfl,box_fr hf2⟩
 |false=>
  go_enter Tryz.func156,Tryz.ntmps156;go_wp2_with fail;refine H.out.mono ?_;rintro r w2 ⟨rfl,hf2⟩;go_wp2_with fail;go_ret;exact⟨rfl,box_fr hf2⟩
section
open Go.MapKept
def MapK (w:World) (b:Nat) (l:List (Int×Value)):Prop:=
 ∃es clock,w.heap[b]? =some (.map es clock)∧es.toList.map (fun e=>(e.key,e.val))=l.map (fun p=>(Value.int .u8 p.1,p.2))∧Stamped es clock
theorem MapK.lt {w:World} {b:Nat} {l:List (Int×Value)} (h:MapK w b l):b<w.heap.size:=by
 obtain⟨es,clock,hb,_⟩:=h;exact(Array.getElem?_eq_some_iff.1 hb).1
theorem MapK.fr {S:Nat→Prop} {w w':World} {b:Nat} {l:List (Int×Value)} (h:MapK w b l) (hf:Fr S w w') (hs:¬S b):MapK w' b l:=by
 have hlt:=h.lt;obtain⟨es,clock,hb,r⟩:=h;exact⟨es,clock,(hf.block b hlt hs).trans hb,r⟩
theorem MapK.new (w:World):MapK (w.alloc (.map #[] 0)) w.heap.size []:=⟨#[],0,(heap_alloc w _).1,rfl,stamped_empty 0⟩
section
variable {l:List (Int×Value)} {es:Array MapEntry} {clock:Nat}
theorem kkeys_of (h:es.toList.map (fun e=>(e.key,e.val))=l.map (fun p=>(Value.int .u8 p.1,p.2))):es.toList.map (·.key)=l.map (fun p=>Value.int .u8 p.1):=by
 have:=congrArg (List.map Prod.fst) h;simpa[List.map_map,Function.comp_def] using this
theorem kiskeys (h:es.toList.map (fun e=>(e.key,e.val))=l.map (fun p=>(Value.int .u8 p.1,p.2))):∀x∈es.toList,IsKey (.int .u8) x.key:=by
 intro x hx;have h1:x.key∈es.toList.map (·.key):=List.mem_map.2 ⟨x,hx,rfl⟩;rw[kkeys_of h] at h1;obtain⟨p,_,e⟩:=List.mem_map.1 h1;rw[←e];rfl
theorem kfind_at {l:List (Int×Value)} {j:Nat} {k:Int} {v:Value} (hn:(l.map (·.1)).Nodup) (h:l[j]? =some (k,v)):(l.find? fun p=>p.1==k)=some (k,v):=by
 induction l generalizing j with
 |nil=>simp at h
 |cons p l ih=>
  cases j with
  |zero=>simp at h;subst h;simp
  |succ j=>
   have hn2:=List.nodup_cons.1 hn;have hne:(p.1==k)=false:=by
    rw[beq_eq_false_iff_ne];intro e;exact hn2.1 (List.mem_map.2 ⟨(k,v),List.mem_of_getElem? (by simpa using h),e.symm⟩)
   rw[List.find?_cons_of_neg (by simp[hne])];exact ih hn2.2 (by simpa using h)
end
variable {P:Program} {w:World} {b:Nat} {l:List (Int×Value)} {t k e:TypeId} {z:Value}
theorem MapK.ins (h:MapK w b l) (ht:P.underlying t=some (.map k e)) (hk:P.underlying k=some (.int .u8)) (n:Int) (v:Value) (hn:∀p∈l,p.1≠n):
  ∃w',(Instr.mapUpdate t (.map (some b)) (.int .u8 n) v).run P w= .ok () w'∧MapK w' b (l++[(n,v)])∧Fr (fun k=>k=b) w w':=by
 have hlt:=h.lt;obtain⟨es,clock,hb,hl,hs⟩:=h;rcases findNow_spec (d:=.int .u8) (k:=.int .u8 n) rfl es.toList 0 (kiskeys hl) with⟨h1,h2⟩|⟨j,e0,h1,h2,h3⟩
 ·refine⟨_,?_,⟨_,_,(heap_set hb).1,?_,stamped_push hs h2⟩,fr_setBlock (.map (es.push ⟨.int .u8 n,v,clock⟩) (clock+1)) hlt⟩
  ·simp[Instr.mapUpdate,run_underlying ht,Go.MapKept.run_getObj_map hb,Go.MapKept.run_checkKey (k:=.int .u8 n) hk rfl,Go.MapKept.run_findKey hk h1,Go.MapKept.run_setObj_map _ hb,Result.andThen]
  ·simp[hl]
 ·exfalso;have h5:e0.key∈es.toList.map (·.key):=List.mem_map.2 ⟨e0,List.mem_of_getElem? h2,rfl⟩;rw[kkeys_of hl,h3] at h5;obtain⟨p,hp,e⟩:=List.mem_map.1 h5;cases e;exact hn p hp rfl
theorem MapK.look (h:MapK w b l) (ht:P.underlying t=some (.map k e)) (hk:P.underlying k=some (.int .u8)) (hz:∀w,(zeroValue e).run P w= .ok z w) (n:Int):
  (Instr.lookup t (.map (some b)) (.int .u8 n) true).run P w= .ok (.tuple #[((l.find? fun p=>p.1==n).map (·.2)).getD z,.bool (l.find? fun p=>p.1==n).isSome]) w∧
  (Instr.lookup t (.map (some b)) (.int .u8 n) false).run P w= .ok (((l.find? fun p=>p.1==n).map (·.2)).getD z) w:=by
 obtain⟨es,clock,hb,hl,hs⟩:=h;rcases findNow_spec (d:=.int .u8) (k:=.int .u8 n) rfl es.toList 0 (kiskeys hl) with⟨h1,h2⟩|⟨j,e0,h1,h2,h3⟩
 ·have hf:(l.find? fun p=>p.1==n)=none:=by
   rw[List.find?_eq_none];intro p hp hq;have h5:Value.int .u8 p.1∈es.toList.map (·.key):=by rw[kkeys_of hl];exact List.mem_map.2 ⟨p,hp,rfl⟩
   obtain⟨x,hx,e⟩:=List.mem_map.1 h5;exact h2 x hx (by rw[e,beq_iff_eq.1 hq])
  rw[hf];constructor<;>simp[Instr.lookup,run_underlying ht,Go.MapKept.run_getObj_map hb,Go.MapKept.run_checkKey (k:=.int .u8 n) hk rfl,Go.MapKept.run_findKey hk h1,hz,Result.andThen]
 ·have hx:(es.toList.map (fun e=>(e.key,e.val)))[j]? =some (e0.key,e0.val):=by rw[List.getElem?_map,h2];rfl
  rw[hl,List.getElem?_map,h3] at hx;have hlj:l[j]? =some (n,e0.val):=by
   cases hlj:l[j]? with
   |none=>rw[hlj] at hx;cases hx
   |some p=>
    rw[hlj] at hx;simp only[Option.map_some,Option.some.injEq,Prod.mk.injEq,Value.int.injEq,true_and] at hx;rw[←hx.1,←hx.2]
  have hnd:(l.map (·.1)).Nodup:=by
   have h1:=hs.2.2;rw[kkeys_of hl] at h1;have h2:l.map (fun p=>Value.int .u8 p.1)=(l.map (·.1)).map (Value.int .u8):=by simp[List.map_map]
   rw[h2] at h1;exact List.Pairwise.imp (fun hne e=>hne (by rw[e])) (List.pairwise_map.1 h1)
  rw[kfind_at hnd hlj];have h1':Instr.findNow (.int .u8) (.int .u8 n) es.toList 0=some (some (j,e0.val)):=by simpa using h1
  constructor<;>simp[Instr.lookup,run_underlying ht,Go.MapKept.run_getObj_map hb,Go.MapKept.run_checkKey (k:=.int .u8 n) hk rfl,Go.MapKept.run_findKey hk h1',Result.andThen]
end
def kindsL:List (Int×Value):=[(1,.agg #[.int .i64 1,.bool true,.bool false,.bool true,.bool false,.bool false,.bool false]),(3,.agg #[.int .i64 1,.bool true,.bool false,.bool true,.bool false,.bool false,.bool false]),(2,.agg #[.int .i64 1,.bool true,.bool false,.bool false,.bool false,.bool false,.bool false]),(10,.agg #[.int .i64 1,.bool true,.bool false,.bool false,.bool false,.bool false,.bool false]),(4,.agg #[.int .i64 2,.bool true,.bool false,.bool false,.bool false,.bool false,.bool false]),(5,.agg #[.int .i64 1,.bool false,.bool false,.bool false,.bool false,.bool true,.bool true]),(6,.agg #[.int .i64 1,.bool false,.bool false,.bool false,.bool false,.bool true,.bool false]),(7,.agg #[.int .i64 1,.bool true,.bool false,.bool false,.bool false,.bool true,.bool false]),(8,.agg #[.int .i64 2,.bool true,.bool true,.bool false,.bool true,.bool true,.bool false]),(9,.agg #[.int .i64 0,.bool true,.bool true,.bool false,.bool false,.bool false,.bool false]),(11,.agg #[.int .i64 0,.bool false,.bool true,.bool false,.bool false,.bool false,.bool false]),(12,.agg #[.int .i64 0,.bool false,.bool false,.bool false,.bool false,.bool false,.bool false])]
theorem und221:Tryz.prog.underlying 210=some (.map 5 208):=by kernel_rfl
theorem undU8:Tryz.prog.underlying 5=some (.int .u8):=by kernel_rfl
def needZ:Value:=.agg #[.int .i64 0,.bool false,.bool false,.bool false,.bool false,.bool false,.bool false]
theorem zeroN (w:World):(zeroValue 208).run Tryz.prog w= .ok needZ w:=by kernel_rfl
theorem pkinds_any (w:World):Calls Tryz.prog 175 #[] w fun e w'=>e= .returned (.map (some w.heap.size))∧MapK w' w.heap.size kindsL∧Fr Non w w':=by
 have hmm:=@run_makeMap Tryz.prog;have hm0:=MapK.new w;have hf0:=(Fr.refl (fun k=>k=w.heap.size) w).alloc (.map #[] 0);obtain⟨w1,hr1,hm1,hg1⟩:=hm0.ins und221 undU8 1 (.agg #[.int .i64 1,.bool true,.bool false,.bool true,.bool false,.bool false,.bool false]) (by simp);have hf1:=hf0.trans hg1;clear hm0 hf0 hg1;obtain⟨w2,hr2,hm2,hg2⟩:=hm1.ins und221 undU8 3 (.agg #[.int .i64 1,.bool true,.bool false,.bool true,.bool false,.bool false,.bool false]) (by simp);have hf2:=hf1.trans hg2;clear hm1 hf1 hg2;obtain⟨w3,hr3,hm3,hg3⟩:=hm2.ins und221 undU8 2 (.agg #[.int .i64 1,.bool true,.bool false,.bool false,.bool false,.bool false,.bool false]) (by simp);have hf3:=hf2.trans hg3;clear hm2 hf2 hg3;obtain⟨w4,hr4,hm4,hg4⟩:=hm3.ins und221 undU8 10 (.agg #[.int .i64 1,.bool true,.bool false,.bool false,.bool false,.bool false,.bool false]) (by simp);have hf4:=hf3.trans hg4;clear hm3 hf3 hg4;obtain⟨w5,hr5,hm5,hg5⟩:=hm4.ins und221 undU8 4 (.agg #[.int .i64 2,.bool true,.bool false,.bool false,.bool false,.bool false,.bool false]) (by simp);have hf5:=hf4.trans hg5;clear hm4 hf4 hg5;obtain⟨w6,hr6,hm6,hg6⟩:=hm5.ins und221 undU8 5 (.agg #[.int .i64 1,.bool false,.bool false,.bool false,.bool false,.bool true,.bool true]) (by simp);have hf6:=hf5.trans hg6;clear hm5 hf5 hg6;obtain⟨w7,hr7,hm7,hg7⟩:=hm6.ins und221 undU8 6 (.agg #[.int .i64 1,.bool false,.bool false,.bool false,.bool false,.bool true,.bool false]) (by simp);have hf7:=hf6.trans hg7;clear hm6 hf6 hg7;obtain⟨w8,hr8,hm8,hg8⟩:=hm7.ins und221 undU8 7 (.agg #[.int .i64 1,.bool true,.bool false,.bool false,.bool false,.bool true,.bool false]) (by simp);have hf8:=hf7.trans hg8;clear hm7 hf7 hg8;obtain⟨w9,hr9,hm9,hg9⟩:=hm8.ins und221 undU8 8 (.agg #[.int .i64 2,.bool true,.bool true,.bool false,.bool true,.bool true,.bool false]) (by simp);have hf9:=hf8.trans hg9;clear hm8 hf8 hg9;obtain⟨w10,hr10,hm10,hg10⟩:=hm9.ins und221 undU8 9 (.agg #[.int .i64 0,.bool true,.bool true,.bool false,.bool false,.bool false,.bool false]) (by simp);have hf10:=hf9.trans hg10;clear hm9 hf9 hg10;obtain⟨w11,hr11,hm11,hg11⟩:=hm10.ins und221 undU8 11 (.agg #[.int .i64 0,.bool false,.bool true,.bool false,.bool false,.bool false,.bool false]) (by simp);have hf11:=hf10.trans hg11;clear hm10 hf10 hg11;obtain⟨w12,hr12,hm12,hg12⟩:=hm11.ins und221 undU8 12 (.agg #[.int .i64 0,.bool false,.bool false,.bool false,.bool false,.bool false,.bool false]) (by simp);have hf12:=hf11.trans hg12;clear hm11 hf11 hg12;have HM:=Zh hm12;have HF:=Zh hf12;clear hm12 hf12;go_enter Tryz.func175,Tryz.ntmps175;go_wp2_with fail;go_ret;exact⟨rfl,HM.out,HF.out.mono fun k hk h=>by have h:k=w.heap.size:=h;omega⟩
def LookR (b:Bool) (e:Ending):Prop:=e=if b then .returned (.tuple #[]) else .panicked [{v:=.iface 156 (.agg #[.nilIface]),recovered:=false}]
theorem LookR.t {e:Ending} (h:LookR true e):e= .returned (.tuple #[]):=h
theorem LookR.f {e:Ending} (h:LookR false e):e= .panicked [{v:=.iface 156 (.agg #[.nilIface]),recovered:=false}]:=h
theorem lookR_t {b:Bool} (h:b=true):LookR b (.returned (.tuple #[])):=by subst h;rfl
theorem lookR_f {b:Bool} (h:b=false):LookR b (.panicked [{v:=.iface 156 (.agg #[.nilIface]),recovered:=false}]):=by subst h;rfl
theorem unless_t (w:World):Calls Tryz.prog 78 #[.bool true] w fun e w'=>e= .returned (.tuple #[])∧w=w':=by
 go_enter Tryz.func78,Tryz.ntmps78;go_wp2_with fail
 go_end0
 exact⟨rfl,rfl⟩
theorem unless_f (w:World):Calls Tryz.prog 78 #[.bool false] w fun e w'=>e= .panicked [{v:=.iface 156 (.agg #[.nilIface]),recovered:=false}]∧w=w':=by
 go_enter Tryz.func78,Tryz.ntmps78;go_wp2_with fail;exact⟨rfl,rfl,rfl⟩
theorem unless_any (b:Bool) (w:World):Calls Tryz.prog 78 #[.bool b] w fun e w'=>LookR b e∧w=w':=by
 cases b
 ·exact unless_f w
 ·exact unless_t w
theorem notnamed_any (s:ByteArray) (w:World):Calls Tryz.prog 177 #[.string s] w fun e w'=>e= .returned (.bool (!namedM s))∧w=w':=by
 go_enter Tryz.func177,Tryz.ntmps177;go_wp2_with fail;refine(pnamed_any _ _).mono ?_;rintro e w1 ⟨rfl,rfl⟩;go_wp2_with fail;go_ret;exact⟨rfl,rfl⟩
theorem enter200:∀(args:Array Value) (w:World),(callFunc 177 args).run Tryz.prog w= .ok (.enter 177 args) w:=fun _ _=>by kernel_rfl
theorem ixstr_any (l:List ByteArray) (ok:Nat→Prop) (A:Option Addr) (c:Nat) (w:World) (hr:RdRows ok w 1 A 0 (l.map strD)) (hc:l.length*16≤reach):
  Calls Tryz.prog 185 #[.slice A l.length c,.func (.func 177) #[] #[]] w fun e w'=>(∃i:Int,e= .returned (.int .i64 i)∧decide (0≤i)= !l.all namedM)∧w=w':=by
 have hlen:l.length≤140737488355328:=by unfold reach at hc;omega
 have HR:=Zh hr;clear hr;have HK:=Zh enter200;go_enter Tryz.func185,Tryz.ntmps185;go_wp2_with fail
 go_loop [8] (fun i=>∃k:Nat,i= .int .i64 k∧k≤l.length∧∀j,j<k→∀hj:j<l.length,namedM l[j]=true) (fun i=>l.length-(intOf i).toNat)
 case atStart=>exact⟨0,rfl,by omega,fun j hj=>by omega⟩
 case round=>
  obtain⟨k,rfl,hk,hno⟩:=hrel;have HN:=Zh hno;clear hno;by_cases hlt:k<l.length
  ·obtain⟨b,o,rfl,hb,h0⟩:=at_str HR.out k hlt;generalize hx:l[k]=x at*;have HX:=Zh hx;clear hx;go_wp2_with fail;refine(notnamed_any x _).mono ?_;rintro e w2 ⟨rfl,rfl⟩;generalize hp:namedM x=q;have HP:=Zh hp;clear hp;cases q with
   |false=>
    go_wp2_with fail;go_ret;refine⟨⟨_,rfl,?_⟩,rfl⟩;rw[all_false_of k hlt (by rw[HX.out];exact HP.out)];simp
   |true=>
    go_wp2_with fail
    go_round
    case rel=>exact⟨k+1,by go_num,by omega,till HN.out fun _=>by rw[HX.out];exact HP.out⟩
    case measure=>simp[intOf];omega
  ·go_wp2_with fail;go_ret;refine⟨⟨_,rfl,?_⟩,rfl⟩;rw[all_true_of fun j hj=>HN.out j (by omega) hj];rfl
theorem costr_any (l:List ByteArray) (ok:Nat→Prop) (A:Option Addr) (c:Nat) (w:World) (hr:RdRows ok w 1 A 0 (l.map strD)) (hc:l.length*16≤reach):
  Calls Tryz.prog 176 #[.slice A l.length c,.func (.func 177) #[] #[]] w fun e w'=>e= .returned (.bool (!l.all namedM))∧w=w':=by
 have h:=ixstr_any l ok A c w hr hc;have H:=Zh h;clear h hr;go_enter Tryz.func176,Tryz.ntmps176;go_wp2_with fail;refine H.out.mono ?_;rintro e w2 ⟨⟨i,rfl,hi⟩,rfl⟩;have HI:=Zh hi;clear hi;go_wp2_with fail;go_ret;exact⟨ret_bool HI.out,rfl⟩
theorem pexprs_any (l:List Ex) (ok:Nat→Prop) (A:Option Addr) (c:Nat) (w:World) (hr:RdRows ok w 5 A 0 (Ex.ds l)) (hc:l.length*64≤reach):
  Calls Tryz.prog 113 #[.slice A l.length c] w fun e w'=>LookR (l.all exM) e∧Fr Non w w':=by
 have hlen:l.length≤140737488355328:=by unfold reach at hc;omega
 have HR:=Zh hr;clear hr;go_enter Tryz.func113,Tryz.ntmps113;go_wp2_with fail
 go_loopw [6] (fun i wr=>∃k:Nat,i= .int .i64 k∧k≤l.length∧Fr Non w wr∧∀j,j<k→∀hj:j<l.length,exM l[j]=true) (fun i _=>l.length-(intOf i).toNat)
 case atStart=>exact⟨0,rfl,by omega,Zf w,fun j hj=>by omega⟩
 case round=>
  obtain⟨k,rfl,hk,hfr,hno⟩:=hrel;have HN:=Zh hno;clear hno;have hrr:=HR.out.fr hfr (fun _ _=>non _) (fun _ h=>h);have HF:=Zh hfr;clear hfr;by_cases hlt:k<l.length
  ·obtain⟨g,o,A',c',rfl,hd,e0,e1,e2,e3,e4,p1,q1,r1⟩:=at_ex hrr k hlt;generalize hx:l[k]=x at*;have HX:=Zh hx;clear hx;have HC:=Zh (pecheck_any x ok A' c' (wr.alloc (.cells #[vu8 x.kind,vu64 x.num,.string x.name,vu8 x.op,.slice A' x.kids.length c'] 48)) (r1.fr ((Zf wr).alloc _) (fun _ _=>non _) fun _ h=>h) p1 q1);clear hrr r1;go_wp2_with fail;refine HC.out.mono ?_;rintro e w2 ⟨rfl,hf2⟩;have HF2:=Zh (HF.out.trans (box_fr hf2));clear hf2;generalize hq:Ex.may x 1=q;have HQ:=Zh hq;clear hq;cases q with
   |true=>
    simp only[if_true];go_wp2_with fail;refine(unless_t _).mono ?_;rintro e w3 ⟨rfl,rfl⟩;go_wp2_with fail;go_roundw
    case rel=>exact⟨k+1,by go_num,by omega,HF2.out,till HN.out fun _=>by rw[HX.out];exact HQ.out⟩
    case measure=>simp[intOf];omega
   |false=>
    simp only[Bool.false_eq_true,if_false];go_wp2_with fail;refine(unless_f _).mono ?_;rintro e w3 ⟨rfl,rfl⟩;go_wp2_with fail;exact⟨rfl,lookR_f (all_false_of k hlt (by rw[HX.out];exact HQ.out)),HF2.out⟩
  ·go_wp2_with fail
   go_end0
   exact⟨lookR_t (all_true_of fun j hj=>HN.out j (by omega) hj),HF.out⟩
end Go.Proofs.YtpkpgmnbheenbaaGreatDoor
