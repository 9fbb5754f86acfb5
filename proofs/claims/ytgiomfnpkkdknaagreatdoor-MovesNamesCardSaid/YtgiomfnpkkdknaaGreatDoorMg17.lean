/- Contracts and laws, Mg17 -/
import Derived.Test.YtgiomfnpkkdknaaGreatDoorMg01
import Derived.Test.YtgiomfnpkkdknaaGreatDoorMg02
import Derived.Laws.IdiomStrings
import Derived.Deep.AppendLies
import Derived.Deep.DeepCutAuto
import Derived.Deep.CutBlock
namespace Go.Proofs.YtgiomfnpkkdknaaGreatDoor
open Go.RowKit
set_option linter.unusedVariables false
set_option linter.unusedSimpArgs false
set_option maxHeartbeats 8000000
set_option maxRecDepth 100000
def nmB (n:Nat):ByteArray:=⟨#[114,UInt8.ofNat (97+n%26),UInt8.ofNat (97+n / 26%26),UInt8.ofNat (97+n / 676%26)]⟩
def nmsL (n:Nat):List ByteArray:=(List.range n).map nmB
def ixN (L:List ByteArray) (s:ByteArray):Nat:=L.findIdx fun x=>sq x s
def rnOf (L:List ByteArray) (s:ByteArray):ByteArray×List ByteArray:=if inM L s then(nmB (ixN L s),L) else if emp s then(s,L) else(nmB L.length,L++[s])
theorem nmsL_length (n:Nat):(nmsL n).length=n:=by simp[nmsL]
theorem nmsL_succ (n:Nat):nmsL (n+1)=nmsL n++[nmB n]:=by simp[nmsL,List.range_succ]
theorem nmsL_get (n i:Nat) (h:i<(nmsL n).length):(nmsL n)[i]=nmB i:=by simp[nmsL]
structure RnAt (base r:Nat) (w:World) (L:List ByteArray) (va vb:Value):Prop where
 blk:w.heap[r]? =some (.cells #[va,vb] 54 (0,0))
 fro:w.ownsRow base 9 1 va L.length (L.map Value.string)
 too:w.ownsRow base 9 1 vb L.length ((nmsL L.length).map Value.string)
 ra:va.ownBlock≠some r
 rb:vb.ownBlock≠some r
 ab:∀k,va.ownBlock=some k→vb.ownBlock≠some k
 hb:base≤r
def RS (r:Nat) (va vb:Value) (k:Nat):Prop:=k=r∨va.ownBlock=some k∨vb.ownBlock=some k
theorem RnAt.far {base r:Nat} {w w':World} {L:List ByteArray} {va vb:Value} {S:Nat→Prop} (h:RnAt base r w L va vb) (hf:Fr S w w') (hs:∀k,RS r va vb k→¬S k):RnAt base r w' L va vb:=
 ⟨Zb h.blk hf (hs r (.inl rfl)),row_fr h.fro hf (fun k hk=>hs k (.inr (.inl hk))),row_fr h.too hf (fun k hk=>hs k (.inr (.inr hk))),h.ra,h.rb,h.ab,h.hb⟩
theorem RnAt.stay {base r:Nat} {w w':World} {L:List ByteArray} {va vb:Value} (h:RnAt base r w L va vb) (hf:Fr Non w w'):RnAt base r w' L va vb:=h.far hf fun _ _=>non _
theorem RnAt.lt {base r:Nat} {w:World} {L:List ByteArray} {va vb:Value} (h:RnAt base r w L va vb):∀k,RS r va vb k→base≤k∧k<w.heap.size:=fun k hk=>by
 rcases hk with rfl|hk|hk
 ·exact⟨h.hb,blk_lt h.blk⟩
 ·exact h.fro.lt k hk
 ·exact h.too.lt k hk
def StpR (base r:Nat) (w:World) (va vb:Value) (w':World) (L':List ByteArray):Prop:=
 ∃va' vb',RnAt base r w' L' va' vb'∧Fr (RS r va vb) w w'∧∀k,RS r va' vb' k→RS r va vb k∨w.heap.size≤k
theorem StpR.self {base r:Nat} {w w':World} {L:List ByteArray} {va vb:Value} (h:RnAt base r w L va vb) (hf:Fr Non w w'):StpR base r w va vb w' L:=
 ⟨va,vb,h.stay hf,hf.non,fun _ hk=>.inl hk⟩
theorem StpR.then {base r:Nat} {w w1 w2:World} {L':List ByteArray} {va vb va1 vb1:Value} (hf:Fr (RS r va vb) w w1) (hn:∀k,RS r va1 vb1 k→RS r va vb k∨w.heap.size≤k) (h:StpR base r w1 va1 vb1 w2 L'):StpR base r w va vb w2 L':=by
 obtain⟨va2,vb2,h1,h2,h3⟩:=h;refine⟨va2,vb2,h1,hf.then h2 fun k hk hr=>?_,fun k hk=>?_⟩
 ·rcases hn k hr with h|h
  ·exact h
  ·omega
 ·rcases h3 k hk with h|h
  ·exact hn k h
  ·exact .inr (Nat.le_trans hf.size h)
theorem ixN_at {L:List ByteArray} {s:ByteArray} {i:Nat} (hi:i<L.length) (h:∀j (hj:j<i),sq (L[j]'(by omega)) s=false) (hs:sq L[i] s=true):inM L s=true∧ixN L s=i:=by
 refine⟨any_true_of i hi hs,?_⟩;unfold ixN;rw[List.findIdx_eq hi];exact⟨hs,fun j hj=>by simpa using h j hj⟩
theorem RnAt.gaveA {base r g n cap:Nat} {w w4:World} {L:List ByteArray} {va vb:Value} {nm:ByteArray} (h3:RnAt base r w L va vb) (hn:L.length=n)
  (hr4:w4.ownsRow base 9 1 (.slice (some ⟨g,0,none⟩) (n+1) cap) (n+1) (L.map Value.string++[.string nm])) (hf4:Fr (fun k=>va.ownBlock=some k) w w4) (hw4:va.ownBlock=some g∨w.heap.size≤g):
  g≠r∧(∀k,(Value.slice (some ⟨g,0,none⟩) (n+1) cap).ownBlock=some k→vb.ownBlock≠some k):=by
 have hgb:g≠r:=by
  rintro rfl;rcases hw4 with h|h
  ·exact h3.ra h
  ·have:=blk_lt h3.blk;omega
 refine⟨hgb,fun k hk h=>?_⟩;have hk2:g=k:=by simpa[Value.ownBlock] using hk
 subst hk2;rcases hw4 with h'|h'
 ·exact h3.ab _ h' h
 ·have:=(h3.too.lt _ h).2;omega
theorem row_append {ops:Array Oper} {rest:List Oper} {o:Oper} {a:Act} {Q:Exit→Act→World→Prop} {w:World} (hgd:o.guard=none) (s x:Operand)
  (ho:o.op= .call {callee:=.builtin .append,args:=#[s,x],argTypes:=#[45,45]})
  (base:Nat) (v:Value) (n:Nat) (xs:List Value) (hs:a.eval s=v) (hown:w.ownsRow base 9 1 v n xs) (ad:Addr) (c:Nat) (hx:a.eval x= .slice (some ad) 1 c) (u:Value)
  (hu:∀(j:Nat) (y:Value),[u][j]? =some y→w.cell? (ad.add j)=some y) (h1:∀y∈[u],y.oneCell'=true) (hn:n≤1099511627776) (hbase:base≤w.heap.size)
  (h:∀g cap w',w'.ownsRow base 9 1 (.slice (some ⟨g,0,none⟩) (n+1) cap) (n+1) (xs++[u])→Fr (fun k=>v.ownBlock=some k) w w'→(v.ownBlock=some g∨w.heap.size≤g)→
    wpList Tryz.prog ops Q rest (a.put o.dst (.slice (some ⟨g,0,none⟩) (n+1) cap)) w'):wpList Tryz.prog ops Q (o::rest) a w:=by
 obtain⟨i0,h0,hz1,hz2,hz3⟩:=info_parts (show(Tryz.prog.info? 9).map (fun i=>(i.zero,i.size,i.bytes))=some (some (Value.string ⟨#[]⟩),1,16) by kernel_rfl);obtain⟨v',w',hr,hrow',hg,hwh⟩:=run_append_where (P:=Tryz.prog) w base 45 o.type 9 i0 (.string ⟨#[]⟩) 1 16 (by kernel_rfl) h0 hz1 hz2 hz3 rfl (by decide) v n xs hown ad 1 c [u] rfl hu h1 (by unfold maxLen;omega) (by omega) hbase;obtain⟨A,cap,rfl,_⟩:=row_slice hrow';obtain⟨g,rfl,_,_⟩:=row_at hrow' (by omega);have hfr:Fr (fun k=>v.ownBlock=some k) w w':=⟨hg.os,hg.tape,hg.output,hg.size,fun k hk hn=>hg.block k hk fun e=>hn e.symm⟩;have hw4:v.ownBlock=some g∨w.heap.size≤g:=(hwh g rfl).imp id fun e=>by omega
 have hres:=h g cap w' hrow' hfr hw4;refine wpList_plain hgd fun K hK=>?_;unfold Oper.wp execOp;simp only[ho,resolve,invoke,builtin,Sem.run_bind,Sem.run_pure,Result.andThen_ok,List.map_toArray,List.map_cons,List.map_nil,hs,hx,hr];exact hK _ _ hres
theorem nm_conv (w:World) (n:Nat):(convert 68 9 (.slice (some ⟨w.heap.size,0,none⟩) 4 4)).run Tryz.prog (w.alloc (.cells #[.int .u8 114,.int .u8 (97+(n:Int)%26),.int .u8 (97+(n:Int) / 26%26),.int .u8 (97+(n:Int) / 676%26)] 5))
  = .ok (.string (nmB n)) (w.alloc (.cells #[.int .u8 114,.int .u8 (97+(n:Int)%26),.int .u8 (97+(n:Int) / 26%26),.int .u8 (97+(n:Int) / 676%26)] 5)):=by
 refine run_convert_bytes_back (P:=Tryz.prog) _ 68 9 5 ⟨w.heap.size,0,none⟩ 4 [114,UInt8.ofNat (97+n%26),UInt8.ofNat (97+n / 26%26),UInt8.ofNat (97+n / 676%26)] Tryz.underlying68 Tryz.underlying5 Tryz.underlying9 fun j hj=>?_;rw[Addr.add_lit,World.cell?_alloc_at _ _ _ _ rfl];simp only[List.length_cons,List.length_nil] at hj
 match j,hj with
 |0,_=>rfl
 |1,_=>simp;omega
 |2,_=>simp;omega
 |3,_=>simp;omega
theorem inM_none {L:List ByteArray} {s:ByteArray} (h:∀k (hk:k<L.length),sq L[k] s=false):inM L s=false:=any_false_of h
theorem of_any (base r:Nat) (w:World) (L:List ByteArray) (va vb:Value) (s:ByteArray) (h:RnAt base r w L va vb) (hc:L.length≤1099511627776):
  Calls Tryz.prog 30 #[.pointer (some ⟨r,0,none⟩),.string s] w fun e w'=>e= .returned (.string (rnOf L s).1)∧StpR base r w va vb w' (rnOf L s).2:=by
 obtain⟨A,c,rfl,hlc⟩:=row_slice h.fro;obtain⟨A2,c2,rfl,hlc2⟩:=row_slice h.too;have b0:=(Zc h.blk).1 0 _ rfl;have b1:=(Zc h.blk).1 1 _ rfl;have bf:=(Zc h.blk).2;have H:=Zh h;clear h;go_enter Tryz.func30,Tryz.ntmps30;go_wp2_with fail
 go_loopw [5] (fun i wr=>wr=w∧∃j:Nat,i= .int .i64 j∧j≤L.length∧∀k (hk:k<L.length),k<j→sq L[k] s=false) (fun i _=>L.length-(intOf i).toNat)
 case atStart=>exact⟨rfl,0,rfl,by omega,fun k _ hk=>by omega⟩
 case round=>
  obtain⟨rfl,j,rfl,hj,hno⟩:=hrel;have HNO:=Zh hno;clear hno;by_cases hlt:j<L.length
  ·obtain⟨g,rfl,hg,hcell⟩:=row_at H.out.fro (by omega);obtain⟨g2,rfl,hg2,hcell2⟩:=row_at H.out.too (by omega);have e0:=hcell j _ (by rw[List.getElem?_map,List.getElem?_eq_getElem hlt];rfl);have e1:=hcell2 j (.string (nmB j)) (by rw[List.getElem?_map,List.getElem?_eq_getElem (by rw[nmsL_length];exact hlt),nmsL_get];rfl);clear hcell hcell2;cases hq:sq L[j] s with
   |true=>
    have hq':=hq;rw[←tosq] at hq';have HQ:=Zh hq;clear hq;go_wp2_with fail;go_ret;obtain⟨hi,hx⟩:=ixN_at hlt (fun k hk=>HNO.out k (by omega) hk) HQ.out;have er:rnOf L s=(nmB j,L):=by rw[rnOf,if_pos hi,hx]
    rw[er];exact⟨by first|rfl|trivial,StpR.self H.out (Zf _)⟩
   |false=>
    have hq':=hq;rw[←tosq] at hq';have HQ:=Zh hq;clear hq;go_wp2_with fail;go_roundw
    case rel=>exact⟨trivial,j+1,by go_num,by omega,fun k hk hk'=>by
     rcases Nat.lt_or_eq_of_le (Nat.le_of_lt_succ hk') with h'|rfl
     ·exact HNO.out k hk h'
     ·exact HQ.out⟩
    case measure=>simp[intOf];omega
  ·have hin:inM L s=false:=inM_none fun k hk=>HNO.out k hk (by omega);have HIN:=Zh hin;clear hin HNO;have hT:=toemp s;cases he:emp s with
   |true=>
    rw[he] at hT;have HE:=Zh he;clear he;go_wp2_with fail;go_ret;have er:rnOf L s=(s,L):=by rw[rnOf,HIN.out,HE.out];rfl
    rw[er];exact⟨by first|rfl|trivial,StpR.self H.out (Zf _)⟩
   |false=>
    rw[he] at hT;have ER:=Zh (show rnOf L s=(nmB L.length,L++[s]) by rw[rnOf,HIN.out,he];rfl);clear he;have hbw:base≤wr.heap.size:=by have:=blk_lt H.out.blk;have:=H.out.hb;omega
    obtain⟨n,hn⟩:∃n,n=L.length:=⟨_,rfl⟩;go_wp2_with (at_builtin;refine row_append rfl _ _ rfl base (.slice A L.length c) L.length (L.map Value.string) rfl (row_fr H.out.fro ((Zf _).alloc _) (fun _ _=>non _)) ⟨wr.heap.size,0,none⟩ 1 rfl (.string s) (new_cells' rfl) ?one hc ?hb ?k)
    case one=>intro y hy;simp at hy;subst hy;rfl
    case hb=>simp;omega
    case k=>
     intro g cap w4 hr4 hf4 hw4;have h1:=H.out.stay ((Zf wr).alloc (.cells #[.string s] 9));obtain⟨hgr,hgb⟩:=h1.gaveA rfl hr4 hf4 (hw4.imp id fun h=>by simp;omega);have blk4:=Zb h1.blk hf4 h1.ra;have too4:=row_fr h1.too hf4 (fun k hk e=>h1.ab k e hk);have hf5:Fr (fun k=>k=r) w4 (w4.setCell ⟨r,0,none⟩ (.slice (some ⟨g,0,none⟩) (L.length+1) cap)):=(Fr.refl (fun k=>k=r) w4).setCell _ _ (.inl rfl);have blk5:=blk_set blk4 0 (.slice (some ⟨g,0,none⟩) (L.length+1) cap);have fro5:=row_fr hr4 hf5 (fun k hk e=>hgr (by subst e;simpa[Value.ownBlock] using hk));have too5:=row_fr too4 hf5 (fun k hk e=>h1.rb (by rw[hk,e]));have F5:Fr (RS r (.slice A L.length c) (.slice A2 L.length c2)) wr (w4.setCell ⟨r,0,none⟩ (.slice (some ⟨g,0,none⟩) (L.length+1) cap)):=
      ((((Zf wr).alloc (.cells #[.string s] 9)).non).trans (hf4.mono fun k _ h=>.inr (.inl h))).trans (hf5.mono fun k _ h=>.inl h)
     have c0:=(Zc blk4).1 0 _ rfl;have cf:=(Zc blk4).2;have z4:wr.heap.size<w4.heap.size:=by have:=hf4.size;simp at this;omega
     have gl5:=(fro5.lt g rfl).2;have BLK5:=Zh blk5;have FRO5:=Zh fro5;have TOO5:=Zh too5;have F5:=Zh F5
     have HGB:=Zh hgb;have HW4:=Zh hw4;have H1:=Zh h1
     clear blk4 blk5 too4 too5 fro5 hgb hw4 h1 hr4 hf4 hf5 b0 b1 bf;go_upto_region 10 with fail;generalize hw5:World.setCell w4 _ _=w5 at*;clear c0 cf;have hcv:=nm_conv w5 L.length;obtain⟨w6,hw6⟩:∃w6,w6=w5.alloc (.cells #[.int .u8 114,.int .u8 (97+(L.length:Int)%26),.int .u8 (97+(L.length:Int) / 26%26),.int .u8 (97+(L.length:Int) / 676%26)] 5):=⟨_,rfl⟩;have f6:Fr Non w5 w6:=by rw[hw6];exact(Zf w5).alloc _
     have BLK6:=Zh (Zb BLK5.out f6 (non _));have FRO6:=Zh (row_fr FRO5.out f6 (fun _ _=>non _));have TOO6:=Zh (row_fr TOO5.out f6 (fun _ _=>non _));have F6:=Zh (F5.out.trans f6.non);have gl6:g<w6.heap.size:=Nat.lt_of_lt_of_le gl5 f6.size;clear f6 BLK5 FRO5 TOO5 F5;go_upto_region 11 with fail;rw[←hw6];clear hw6 hcv;have c1:=(Zc BLK6.out).1 1 _ rfl;have hbw6:base≤w6.heap.size:=by have:=F6.out.size;omega
     go_wp2_with (at_builtin;refine row_append rfl _ _ rfl base (.slice A2 L.length c2) L.length ((nmsL L.length).map Value.string) rfl (row_fr TOO6.out ((Zf _).alloc _) (fun _ _=>non _)) ⟨w6.heap.size,0,none⟩ 1 rfl (.string (nmB L.length)) (new_cells' rfl) ?one2 hc ?hb2 ?k2)
     case one2=>intro y hy;simp at hy;subst hy;rfl
     case hb2=>simp;omega
     case k2=>
      intro g2 cap2 w8 hr8 hf8 hw8;have f7:=(Zf w6).alloc (.cells #[.string (nmB L.length)] 9);have nb:∀k,(Value.slice A2 L.length c2).ownBlock=some k→k≠r:=fun k hk e=>H1.out.rb (by rw[hk,e]);have hg2r:g2≠r:=by
       rintro rfl;rcases hw8 with h|h
       ·exact nb _ h rfl
       ·have:=blk_lt BLK6.out;(try simp at h);omega
      have hg12:g2≠g:=by
       rintro rfl;rcases hw8 with h|h
       ·exact HGB.out _ rfl h
       ·(try simp at h);omega
      have blk8:=Zb (Zb BLK6.out f7 (non _)) hf8 (fun e=>nb _ e rfl);have fro8:=row_fr (row_fr FRO6.out f7 (fun _ _=>non _)) hf8 (fun k hk e=>HGB.out k hk e);have hf9:Fr (fun k=>k=r) w8 (w8.setCell ⟨r,1,none⟩ (.slice (some ⟨g2,0,none⟩) (L.length+1) cap2)):=(Fr.refl (fun k=>k=r) w8).setCell _ _ (.inl rfl);have blk9:=blk_set blk8 1 (.slice (some ⟨g2,0,none⟩) (L.length+1) cap2);have fro9:=row_fr fro8 hf9 (fun k hk e=>hgr (by subst e;simpa[Value.ownBlock] using hk));have too9:=row_fr hr8 hf9 (fun k hk e=>hg2r (by subst e;simpa[Value.ownBlock] using hk));have F9:Fr (RS r (.slice A L.length c) (.slice A2 L.length c2)) wr (w8.setCell ⟨r,1,none⟩ (.slice (some ⟨g2,0,none⟩) (L.length+1) cap2)):=
       ((F6.out.trans f7.non).trans (hf8.mono fun k _ h=>.inr (.inr h))).trans (hf9.mono fun k _ h=>.inl h)
      have d0:=(Zc blk8).1 1 _ rfl;have df:=(Zc blk8).2;have z8:w6.heap.size<w8.heap.size:=by have:=hf8.size;simp at this;omega
      have z6:wr.heap.size≤w6.heap.size:=F6.out.size
      have R9:=Zh (show RnAt base r (w8.setCell ⟨r,1,none⟩ (.slice (some ⟨g2,0,none⟩) (L.length+1) cap2)) (L++[s]) (.slice (some ⟨g,0,none⟩) (L.length+1) cap) (.slice (some ⟨g2,0,none⟩) (L.length+1) cap2) from
       ⟨blk9,by rw[List.length_append,List.map_append];exact fro9,by rw[List.length_append,List.length_singleton,nmsL_succ,List.map_append];exact too9,
         fun h=>hgr (by simpa[Value.ownBlock] using h),fun h=>hg2r (by simpa[Value.ownBlock] using h),
         fun k hk h=>hg12 (by have a:g=k:=by simpa[Value.ownBlock] using hk
                              have b:g2=k:=by simpa[Value.ownBlock] using h
                              omega),H.out.hb⟩)
      have N9:=Zh (show∀k,RS r (.slice (some ⟨g,0,none⟩) (L.length+1) cap) (.slice (some ⟨g2,0,none⟩) (L.length+1) cap2) k→RS r (.slice A L.length c) (.slice A2 L.length c2) k∨wr.heap.size≤k from by
       rintro k (h|h|h)
       ·exact .inl (.inl h)
       ·have hk:g=k:=by simpa[Value.ownBlock] using h
        subst hk;rcases HW4.out with h|h
        ·exact .inl (.inr (.inl h))
        ·exact .inr (by omega)
       ·have hk:g2=k:=by simpa[Value.ownBlock] using h
        subst hk;rcases hw8 with h|h
        ·exact .inl (.inr (.inr h))
        ·exact .inr (by(try simp at h);omega))
      have F9:=Zh F9;clear blk8 blk9 fro8 fro9 too9 hf9 hr8 hf8 hw8 f7 c1;go_wp2_with fail;go_ret;rw[ER.out];exact⟨by first|rfl|trivial,_,_,R9.out,F9.out,N9.out⟩
def AppW (t e:TypeId) (size:Nat):Prop:=
 ∀{ops:Array Oper} {rest:List Oper} {o:Oper} {a:Act} {Q:Exit→Act→World→Prop} {w:World} (_:o.guard=none) (s x:Operand)
  (_:o.op= .call {callee:=.builtin .append,args:=#[s,x],argTypes:=#[t,t]})
  (base:Nat) (v:Value) (n:Nat) (xs:List Value) (_:a.eval s=v) (_:w.ownsRow base e size v n xs) (ad:Addr) (c:Nat) (_:a.eval x= .slice (some ad) 1 c) (us:List Value) (_:us.length=size)
  (_:∀(j:Nat) (y:Value),us[j]? =some y→w.cell? (ad.add j)=some y) (_:∀y∈us,y.oneCell'=true) (_:n≤1099511627776) (_:base≤w.heap.size)
  (_:∀g cap w',w'.ownsRow base e size (.slice (some ⟨g,0,none⟩) (n+1) cap) (n+1) (xs++us)→Fr (fun k=>v.ownBlock=some k) w w'→(v.ownBlock=some g∨w.heap.size≤g)→
    wpList Tryz.prog ops Q rest (a.put o.dst (.slice (some ⟨g,0,none⟩) (n+1) cap)) w'),wpList Tryz.prog ops Q (o::rest) a w
theorem appW_of {t e:TypeId} {z:Value} {size bytes:Nat} (ht:Tryz.prog.underlying t=some (.slice e)) (hi:(Tryz.prog.info? e).map (fun i=>(i.zero,i.size,i.bytes))=some (some z,size,bytes)) (hzs:z.cells.size=size) (hsz:0<size) (hby:bytes≤144):AppW t e size:=by
 obtain⟨i0,h0,hz1,hz2,hz3⟩:=info_parts hi;intro ops rest o a Q w hgd s x ho base v n xs hs hown ad c hx us hl hnews h1 hn hbase h;obtain⟨v',w',hr,hrow',hg,hwh⟩:=run_append_where (P:=Tryz.prog) w base t o.type e i0 z size bytes ht h0 hz1 hz2 hz3 hzs hsz v n xs hown ad 1 c us (by omega) hnews h1 (by unfold maxLen;omega)
  (by have:=Nat.mul_le_mul (show n+1+(n+1) / 4+192≤1374389534913+192 by omega) hby;omega) hbase
 obtain⟨A,cap,rfl,_⟩:=row_slice hrow';obtain⟨g,rfl,_,_⟩:=row_at hrow' (by omega);have hfr:Fr (fun k=>v.ownBlock=some k) w w':=⟨hg.os,hg.tape,hg.output,hg.size,fun k hk hn=>hg.block k hk fun e=>hn e.symm⟩;have hw4:v.ownBlock=some g∨w.heap.size≤g:=(hwh g rfl).imp id fun e=>by omega
 have hres:=h g cap w' hrow' hfr hw4;refine wpList_plain hgd fun K hK=>?_;unfold Oper.wp execOp;simp only[ho,resolve,invoke,builtin,Sem.run_bind,Sem.run_pure,Result.andThen_ok,List.map_toArray,List.map_cons,List.map_nil,hs,hx,hr];exact hK _ _ hres
theorem appW_ex:AppW 34 44 5:=appW_of (z:=exZ) (bytes:=64) (by kernel_rfl) (by kernel_rfl) rfl (by decide) (by decide)
theorem appW_st:AppW 33 47 9:=appW_of (z:=stZ) (bytes:=144) (by kernel_rfl) (by kernel_rfl) rfl (by decide) (by decide)
theorem appW_pa:AppW 32 39 4:=appW_of (z:=paZ) (bytes:=24) (by kernel_rfl) (by kernel_rfl) rfl (by decide) (by decide)
theorem appW_fu:AppW 22 36 5:=appW_of (z:=fuZ) (bytes:=96) (by kernel_rfl) (by kernel_rfl) rfl (by decide) (by decide)
theorem appW_str:AppW 45 9 1:=appW_of (z:=.string ⟨#[]⟩) (bytes:=16) (by kernel_rfl) (by kernel_rfl) rfl (by decide) (by decide)
mutual
def Ex.rnS:Ex→List ByteArray→Ex×List ByteArray
 | .mk k n s o l,L=>let a:=rnOf L s;let q:=Ex.rnSs l a.2;(.mk k n a.1 o q.1,q.2)
def Ex.rnSs:List Ex→List ByteArray→List Ex×List ByteArray
 |[],L=>([],L)
 |e::l,L=>let a:=Ex.rnS e L;let q:=Ex.rnSs l a.2;(a.1::q.1,q.2)
end
theorem rnSs_length:∀(l:List Ex) (L:List ByteArray),(Ex.rnSs l L).1.length=l.length
 |[],_=>rfl
 |e::l,L=>by rw[Ex.rnSs];simp[rnSs_length l]
theorem rnSs_snoc:∀(l:List Ex) (x:Ex) (L:List ByteArray),Ex.rnSs (l++[x]) L=((Ex.rnSs l L).1++[(x.rnS (Ex.rnSs l L).2).1],(x.rnS (Ex.rnSs l L).2).2)
 |[],x,L=>by rw[List.nil_append,Ex.rnSs,Ex.rnSs,Ex.rnSs];rfl
 |e::l,x,L=>by rw[List.cons_append,Ex.rnSs,rnSs_snoc l x,Ex.rnSs];rfl
theorem rnOf_len (L:List ByteArray) (s:ByteArray):L.length≤(rnOf L s).2.length∧(rnOf L s).2.length≤L.length+1:=by
 unfold rnOf;split
 ·simp
 ·split<;>simp
mutual
theorem rnS_len:∀(e:Ex) (L:List ByteArray),L.length≤(e.rnS L).2.length∧(e.rnS L).2.length≤L.length+e.size
 | .mk k n s o l,L=>by
   rw[Ex.rnS,Ex.size];have h1:=rnOf_len L s;have h2:=rnSs_len l (rnOf L s).2;simp only;omega
theorem rnSs_len:∀(l:List Ex) (L:List ByteArray),L.length≤(Ex.rnSs l L).2.length∧(Ex.rnSs l L).2.length≤L.length+Ex.sizes l
 |[],L=>by simp[Ex.rnSs]
 |e::l,L=>by
  rw[Ex.rnSs,Ex.sizes];have h1:=rnS_len e L;have h2:=rnSs_len l (e.rnS L).2;simp only;omega
end
theorem ex_len_sizes (l:List Ex):l.length≤Ex.sizes l:=by
 induction l with
 |nil=>simp
 |cons e l ih=>cases e;simp[Ex.sizes,Ex.size];omega
def NewX (B r:Nat) (va vb:Value) (w:World) (k:Nat):Prop:=B≤k∧k<w.heap.size∧¬RS r va vb k
structure RnP (base r:Nat) (w:World) (va vb:Value) (w':World) (L':List ByteArray) (va' vb':Value):Prop where
 at_:RnAt base r w' L' va' vb'
 fr:Fr (RS r va vb) w w'
 grow:∀k,RS r va' vb' k→RS r va vb k∨w.heap.size≤k
theorem StpR.p {base r:Nat} {w w':World} {va vb:Value} {L':List ByteArray} (h:StpR base r w va vb w' L'):∃va' vb',RnP base r w va vb w' L' va' vb':=by
 obtain⟨va',vb',h1,h2,h3⟩:=h;exact⟨va',vb',h1,h2,h3⟩
theorem RnP.refl {base r:Nat} {w w':World} {va vb:Value} {L:List ByteArray} (h:RnAt base r w L va vb) (hf:Fr Non w w'):RnP base r w va vb w' L va vb:=⟨h.stay hf,hf.non,fun _ h=>.inl h⟩
theorem RnP.trans {base r:Nat} {w w1 w2:World} {va vb va1 vb1 va2 vb2:Value} {L1 L2:List ByteArray} (h:RnP base r w va vb w1 L1 va1 vb1) (k:RnP base r w1 va1 vb1 w2 L2 va2 vb2):RnP base r w va vb w2 L2 va2 vb2:=
 ⟨k.at_,h.fr.then k.fr fun q hq hr=>by
   rcases h.grow q hr with h|h
   ·exact h
   ·omega,fun q hq=>by
   rcases k.grow q hq with h'|h'
   ·exact h.grow q h'
   ·exact .inr (Nat.le_trans h.fr.size h')⟩
theorem RnP.more {base r:Nat} {w w1 w2:World} {va vb va1 vb1:Value} {L1:List ByteArray} {S:Nat→Prop} (h:RnP base r w va vb w1 L1 va1 vb1) (hf:Fr S w1 w2) (hs:∀k,S k→w.heap.size≤k∧¬RS r va1 vb1 k):RnP base r w va vb w2 L1 va1 vb1:=
 ⟨h.at_.far hf fun k hk hS=>(hs k hS).2 hk,h.fr.then hf fun k hk hS=>by have:=(hs k hS).1;omega,h.grow⟩
theorem RnP.pre {base r:Nat} {w0 w w1:World} {va vb va1 vb1:Value} {L1:List ByteArray} (hf:Fr Non w0 w) (h:RnP base r w va vb w1 L1 va1 vb1):RnP base r w0 va vb w1 L1 va1 vb1:=
 ⟨h.at_,hf.non.trans h.fr,fun k hk=>(h.grow k hk).imp id fun h=>Nat.le_trans hf.size h⟩
theorem NewX.go {B r:Nat} {base:Nat} {w w':World} {va vb va' vb':Value} {L':List ByteArray} (h:RnP base r w va vb w' L' va' vb'):∀k,NewX B r va vb w k→¬RS r va vb k∧NewX B r va' vb' w' k:=fun k hk=>
 ⟨hk.2.2,hk.1,Nat.lt_of_lt_of_le hk.2.1 h.fr.size,fun hr=>by
   rcases h.grow k hr with h|h
   ·exact hk.2.2 h
   ·have:=hk.2.1;omega⟩
theorem RdRows.go {B r base sz:Nat} {w w':World} {va vb va' vb':Value} {L':List ByteArray} {A:Option Addr} {l:List (List D)} (h:RdRows (NewX B r va vb w) w sz A 0 l) (hp:RnP base r w va vb w' L' va' vb'):RdRows (NewX B r va' vb' w') w' sz A 0 l:=
 h.fr hp.fr (fun k hk=>(NewX.go hp k hk).1) fun k hk=>(NewX.go hp k hk).2
theorem ex_take_sizes (l:List Ex) (j:Nat) (h:j<l.length):Ex.sizes (l.take j)+l[j].size≤Ex.sizes l:=by
 induction l generalizing j with
 |nil=>simp at h
 |cons e l ih=>cases j with
  |zero=>simp[Ex.sizes]
  |succ j=>have:=ih j (by simpa using h);simp[Ex.sizes];omega
theorem ds_snoc (l:List Ex) (y:Ex):Ex.ds (l++[y])=Ex.ds l++[y.d]:=by rw[Ex.ds_eq,Ex.ds_eq,List.map_append];rfl
theorem rnS_eq (e:Ex) (L:List ByteArray):e.rnS L=(.mk e.kind e.num (rnOf L e.name).1 e.op (Ex.rnSs e.kids (rnOf L e.name).2).1,(Ex.rnSs e.kids (rnOf L e.name).2).2):=by
 cases e;rw[Ex.rnS];rfl
structure OwnN (B r:Nat) (e:TypeId) (sz:Nat) (w:World) (va vb v:Value) (l:List (List D)):Prop where
 has:∃xs,w.ownsRow B e sz v l.length xs∧Chunks (fun k=>NewX B r va vb w k∧v.ownBlock≠some k) w sz l xs
 apart:∀k,v.ownBlock=some k→¬RS r va vb k
theorem OwnN.nil (B r:Nat) (e:TypeId) (sz:Nat) (w:World) (va vb:Value):OwnN B r e sz w va vb (.slice none 0 0) []:=⟨⟨[],World.ownsRow_nil _ _ _ _,rfl⟩,fun k h=>by cases h⟩
theorem OwnN.slice {B r:Nat} {e:TypeId} {sz:Nat} {w:World} {va vb v:Value} {l:List (List D)} (h:OwnN B r e sz w va vb v l):∃A c,v= .slice A l.length c∧l.length≤c:=by
 obtain⟨⟨xs,h1,_⟩,_⟩:=h;exact row_slice h1
theorem OwnN.go {B r base:Nat} {e:TypeId} {sz:Nat} {w w':World} {va vb va' vb' v:Value} {L':List ByteArray} {l:List (List D)} (h:OwnN B r e sz w va vb v l) (hp:RnP base r w va vb w' L' va' vb'):OwnN B r e sz w' va' vb' v l:=by
 obtain⟨⟨xs,h1,h2⟩,h3⟩:=h;refine⟨⟨xs,row_fr h1 hp.fr h3,h2.mono (fun b o u hb hc=>hp.fr.cell' hc hb.1.2.2) fun b hb=>⟨(NewX.go hp b hb.1).2,hb.2⟩⟩,fun k hk hr=>?_⟩;rcases hp.grow k hr with h|h
 ·exact h3 k hk h
 ·have:=(h1.lt k hk).2;omega
theorem OwnN.stay {B r:Nat} {e:TypeId} {sz:Nat} {w w':World} {va vb v:Value} {l:List (List D)} {S:Nat→Prop} (h:OwnN B r e sz w va vb v l) (hf:Fr S w w') (hs:∀k,B≤k→¬S k):OwnN B r e sz w' va vb v l:=by
 obtain⟨⟨xs,h1,h2⟩,h3⟩:=h;exact⟨⟨xs,row_fr h1 hf fun k hk=>hs k (h1.lt k hk).1,h2.mono (fun b o u hb hc=>hf.cell' hc (hs b hb.1.1)) fun b hb=>⟨⟨hb.1.1,Nat.lt_of_lt_of_le hb.1.2.1 hf.size,hb.1.2.2⟩,hb.2⟩⟩,h3⟩
theorem OwnN.rows {B r:Nat} {e:TypeId} {sz:Nat} {w:World} {va vb:Value} {A:Option Addr} {c n:Nat} {l:List (List D)} (h:OwnN B r e sz w va vb (.slice A n c) l):RdRows (NewX B r va vb w) w sz A 0 l:=by
 obtain⟨⟨xs,h1,h2⟩,h4⟩:=h;have h1':=h1;obtain⟨_,h3⟩:=h1;rcases h3 with⟨hv,h3⟩|⟨g,cap,cur,hv,hb,hh,_⟩
 ·obtain rfl:l=[]:=List.eq_nil_of_length_eq_zero h3;trivial
 ·obtain⟨rfl,rfl,rfl⟩:A=some ⟨g,0,none⟩∧n=l.length∧c=cap:=by cases hv;exact⟨rfl,rfl,rfl⟩
  refine RdRows.of_chunks ⟨hb,(Array.getElem?_eq_some_iff.1 hh).1,h4 g rfl⟩ (h2.mono (fun _ _ _ _ h=>h) fun b hb=>hb.1) fun j u hu=>?_;have:=h1'.cells (g:=g) rfl j u hu;simpa[Addr.add_lit] using this
theorem OwnN.snoc {B r base:Nat} {e:TypeId} {sz g n cap:Nat} {w W w':World} {va vb v:Value} {L:List ByteArray} {l:List (List D)} {d:List D} {us xs:List Value} (h3:∀k,v.ownBlock=some k→¬RS r va vb k)
  (h2:Chunks (fun k=>NewX B r va vb w k∧v.ownBlock≠some k) w sz l xs) (hB:B≤w.heap.size) (hn:l.length=n) (hat:RnAt base r w L va vb)
  (hd:Chunks (fun k=>NewX B r va vb W k∧v.ownBlock≠some k) W sz [d] us) (hf:Fr Non w W)
  (hrow:w'.ownsRow B e sz (.slice (some ⟨g,0,none⟩) (n+1) cap) (n+1) (xs++us)) (hfr:Fr (fun k=>v.ownBlock=some k) W w') (hg:v.ownBlock=some g∨W.heap.size≤g):
  OwnN B r e sz w' va vb (.slice (some ⟨g,0,none⟩) (n+1) cap) (l++[d]):=by
 have hgl:∀k,k<W.heap.size→v.ownBlock≠some k→(Value.slice (some ⟨g,0,none⟩) (n+1) cap).ownBlock≠some k:=fun k hk hv h=>by
  have h:g=k:=by simpa[Value.ownBlock] using h
  subst h;rcases hg with h|h
  ·exact hv h
  ·omega
 refine⟨⟨xs++us,by rw[List.length_append,List.length_singleton,hn];exact hrow,Chunks.append ?_ ?_⟩,fun k hk hr=>?_⟩
 ·exact hd.mono (fun b o u hb hc=>hfr.cell' hc hb.2) fun b hb=>⟨⟨hb.1.1,Nat.lt_of_lt_of_le hb.1.2.1 hfr.size,hb.1.2.2⟩,hgl b hb.1.2.1 hb.2⟩
 ·refine h2.mono (fun b o u hb hc=>hfr.cell' (hf.cell' hc (non _)) hb.2) fun b hb=>⟨⟨hb.1.1,?_,hb.1.2.2⟩,hgl b (Nat.lt_of_lt_of_le hb.1.2.1 hf.size) hb.2⟩;exact Nat.lt_of_lt_of_le (Nat.lt_of_lt_of_le hb.1.2.1 hf.size) hfr.size
 ·have hk:g=k:=by simpa[Value.ownBlock] using hk
  subst hk;rcases hg with h|h
  ·exact h3 _ h hr
  ·have:=(hat.lt _ hr).2;have:=hf.size;omega
theorem rexpr_any (N:Nat):∀(k:UInt8) (n:UInt64) (s:ByteArray) (o:UInt8) (l:List Ex) (ok:Nat→Prop) (A:Option Addr) (c:Nat) (w:World) (base r:Nat) (L:List ByteArray) (va vb:Value),Ex.size (.mk k n s o l)≤N→
   RdRows ok w 5 A 0 (Ex.ds l)→l.length≤c→l.length*64≤reach→(∀q,ok q→q<base)→RnAt base r w L va vb→L.length+Ex.size (.mk k n s o l)≤1099511627776→
  Calls Tryz.prog 32 #[.pointer (some ⟨r,0,none⟩),exV k n s o A l.length c] w fun e w'=>∃A' c' va' vb',e= .returned (exV k n (rnOf L s).1 o A' l.length c')∧
   RnP base r w va vb w' (Ex.rnSs l (rnOf L s).2).2 va' vb'∧l.length≤c'∧RdRows (NewX w.heap.size r va' vb' w') w' 5 A' 0 (Ex.ds (Ex.rnSs l (rnOf L s).2).1):=by
 induction N with
 |zero=>intro k n s o l ok A c w base r L va vb h;simp[Ex.size] at h
 |succ N ih=>
  intro k n s o l ok A c w base r L va vb hN hr hlc hc hok hat hL;have hlen:l.length≤140737488355328:=by unfold reach at hc;omega
  have hN':Ex.sizes l≤N:=by simp[Ex.size] at hN;omega
  have hL':L.length+1+Ex.sizes l≤1099511627776:=by simp[Ex.size] at hL;omega
  clear hN hL;have HLS:=Zh (ex_len_sizes l);have IH:=Zh ih;clear ih;have HR:=Zh hr;clear hr;have HOK:=Zh hok;clear hok;obtain⟨W1,HW1⟩:∃W1,W1=(w.alloc (.cells #[vu8 k,vu64 n,.string s,vu8 o,.slice A l.length c] 44)).alloc (.cells #[.int .u8 0,.int .u64 0,.string ⟨#[]⟩,.int .u8 0,.slice none 0 0] 44):=⟨_,rfl⟩;have hf1:Fr Non w W1:=by rw[HW1];exact((Zf w).alloc _).alloc _
  have hz1:W1.heap.size=w.heap.size+2:=by rw[HW1];simp
  have hb1:W1.heap[w.heap.size]? =some (.cells #[vu8 k,vu64 n,.string s,vu8 o,.slice A l.length c] 44 (0,0)):=by rw[HW1];exact blk_old (blk_new _ _ _)
  have hb2:W1.heap[w.heap.size+1]? =some (.cells #[.int .u8 0,.int .u64 0,.string ⟨#[]⟩,.int .u8 0,.slice none 0 0] 44 (0,0)):=by rw[HW1];exact blk_new' (by simp) _ _
  have hat1:=hat.stay hf1;have HLT:=Zh hat.lt;clear hat;have g2:=(Zc hb1).1 2 _ rfl;have HB1:=Zh hb1;have HB2:=Zh hb2;have HF1:=Zh hf1;have HAT1:=Zh hat1
  clear hb1 hb2 hf1 hat1;go_enter Tryz.func32,Tryz.ntmps32;go_upto_region 1 with fail;rw[←HW1];clear HW1;go_wp2_with fail;refine(of_any base r W1 L va vb s HAT1.out (by omega)).mono ?_;rintro e w2 ⟨rfl,hst⟩;obtain⟨va1,vb1,hp⟩:=hst.p;obtain⟨s',hs'⟩:∃s',s'=(rnOf L s).1:=⟨_,rfl⟩;obtain⟨La,hLa⟩:∃La,La=(rnOf L s).2:=⟨_,rfl⟩;rw[←hs'];rw[←hLa] at hp;have hlA:La.length≤L.length+1:=by rw[hLa];exact(rnOf_len L s).2
  have hnr:∀q,q<W1.heap.size→w.heap.size≤q→¬RS r va1 vb1 q:=fun q h1 h2 h=>by
   rcases hp.grow q h with h|h
   ·have:=(HLT.out q h).2;omega
   ·omega
  have hnr0:∀q,w.heap.size≤q→¬RS r va vb q:=fun q h2 h=>by have:=(HLT.out q h).2;omega
  have hb1:=Zb HB1.out hp.fr (hnr0 _ (Nat.le_refl _));have hb2:=Zb HB2.out hp.fr (hnr0 _ (by omega));have gf:=(Zc hb1).2;clear g2;have g2:=(Zc hb1).1 2 _ rfl;have hf3:Fr (fun q=>q=w.heap.size) w2 (w2.setCell ⟨w.heap.size,2,none⟩ (.string s')):=(Fr.refl (fun q=>q=w.heap.size) w2).setCell _ _ (.inl rfl);have hb3:=blk_set hb1 2 (.string s');have hb4:=Zb hb2 hf3 (fun e=>by omega);have hp3:=(RnP.pre HF1.out hp).more hf3 (fun q e=>by subst e;exact⟨Nat.le_refl _,hnr _ (by omega) (Nat.le_refl _)⟩);have hz3:w.heap.size+2≤(w2.setCell ⟨w.heap.size,2,none⟩ (.string s')).heap.size:=by have:=hp.fr.size;rw[setCell_size];omega
  have HS':=Zh hs';have HLA:=Zh hLa;have HP3:=Zh hp3;have HB3:=Zh hb3;have HB4:=Zh hb4
  have HNR:=Zh (hnr (w.heap.size) (by omega) (Nat.le_refl _));have HNR1:=Zh (hnr (w.heap.size+1) (by omega) (by omega))
  clear hs' hLa hp hst hp3 hb1 hb2 hb3 hb4 hf3 hnr hnr0 HB1 HB2 HAT1;go_upto_region 2 with fail;generalize hW3:World.setCell w2 _ _=W3 at*;clear g2 gf;go_wp2_with fail
  go_loopw [5,6] (fun v i wr=>∃(j:Nat) (va2 vb2:Value),i= .int .i64 j∧j≤l.length∧RnP base r w va vb wr (Ex.rnSs (l.take j) La).2 va2 vb2∧¬RS r va2 vb2 w.heap.size∧¬RS r va2 vb2 (w.heap.size+1)∧
   wr.heap[w.heap.size]? =some (.cells #[vu8 k,vu64 n,.string s',vu8 o,.slice A l.length c] 44 (0,0))∧wr.heap[w.heap.size+1]? =some (.cells #[.int .u8 0,.int .u64 0,.string ⟨#[]⟩,.int .u8 0,.slice none 0 0] 44 (0,0))∧
   OwnN (w.heap.size+2) r 44 5 wr va2 vb2 v (Ex.ds (Ex.rnSs (l.take j) La).1)) (fun _ i _=>l.length-(intOf i).toNat)
  case atStart=>exact⟨0,va1,vb1,rfl,by omega,HP3.out,HNR.out,HNR1.out,HB3.out,HB4.out,OwnN.nil _ _ _ _ _ _ _⟩
  case round=>
   obtain⟨j,va2,vb2,rfl,hj,hp,hq1,hq2,hb1,hb2,hown⟩:=hrel;have hz:w.heap.size+2≤wr.heap.size:=by have:=blk_lt hb2;omega
   have g4:=(Zc hb1).1 4 _ rfl;obtain⟨A3,c3,rfl,hc3⟩:=hown.slice;have hn:(Ex.ds (Ex.rnSs (l.take j) La).1).length=j:=by rw[Ex.ds_length,rnSs_length,List.length_take];omega
   rw[hn] at hc3 hown ⊢;have HN:=Zh hn;clear hn;have HP:=Zh hp;clear hp;have HB1:=Zh hb1;clear hb1;have HB2:=Zh hb2;clear hb2;have HQ1:=Zh hq1;clear hq1;have HQ2:=Zh hq2;clear hq2;have HOW:=Zh hown;clear hown;by_cases hlt:j<l.length
   ·obtain⟨b,o1,A1,c1,rfl,hb,e0,e1,e2,e3,e4,p1,p2,p3⟩:=at_ex (HR.out.fr HP.out.fr (fun q hq h=>by have:=HOK.out q hq;have:=(HLT.out q h).1;omega) (fun _ h=>h)) j hlt;have HTS:=Zh (take_snoc l j hlt);have HSZ:=Zh (size_le l j hlt);have HLN:=Zh (rnSs_len (l.take j) La);have HLM:=Zh (show Ex.sizes (l.take j)+l[j].size≤Ex.sizes l from ex_take_sizes l j hlt);generalize l[j]=x at*;obtain⟨xk,xn,xs,xo,xl⟩:=x;have P3:=Zh p3;clear p3;simp only[Ex.kind,Ex.num,Ex.name,Ex.op,Ex.kids] at e0 e1 e2 e3 e4 p1 p2;go_wp2_with fail;refine(IH.out xk xn xs xo xl ok A1 c1 wr base r (Ex.rnSs (l.take j) La).2 va2 vb2 (by have:=HSZ.out;omega) P3.out p1 p2 HOK.out HP.out.at_ (by have:=HLN.out;have:=HLM.out;omega)).mono ?_;rintro e w4 ⟨A4,c4,va4,vb4,rfl,hp4,hc4,hr4⟩;obtain⟨y,hy⟩:∃y,y=(Ex.rnS (.mk xk xn xs xo xl) (Ex.rnSs (l.take j) La).2).1:=⟨_,rfl⟩;obtain⟨L4,hL4⟩:∃L4,L4=(Ex.rnS (.mk xk xn xs xo xl) (Ex.rnSs (l.take j) La).2).2:=⟨_,rfl⟩;have hsn:=rnSs_snoc (l.take j) (.mk xk xn xs xo xl) La;rw[←HTS.out,←hy,←hL4] at hsn;rw[rnS_eq] at hy hL4;simp only[Ex.kind,Ex.num,Ex.name,Ex.op,Ex.kids] at hy hL4;rw[←hL4] at hp4;obtain⟨x',hx'⟩:∃x',x'=(rnOf (Ex.rnSs (l.take j) La).2 xs).1:=⟨_,rfl⟩;obtain⟨k',hk'⟩:∃k',k'=(Ex.rnSs xl (rnOf (Ex.rnSs (l.take j) La).2 xs).2).1:=⟨_,rfl⟩;rw[←hx',←hk'] at hy;rw[←hx'];rw[←hk'] at hr4;have hkl:k'.length=xl.length:=by rw[hk',rnSs_length]
    obtain⟨⟨cs,hrow,hch⟩,hap⟩:=HOW.out.go hp4;have hlt4:=hp4.at_.lt;have hz4:=hp4.fr.size;rw[HN.out] at hrow;have HCH:=Zh hch;have HAP:=Zh hap;have HROW:=Zh hrow
    have HSN:=Zh hsn;have HY:=Zh hy;have HR4:=Zh hr4;have HKL:=Zh hkl;have HP4:=Zh hp4
    clear hx' hk' hL4 hsn hy hr4 hkl hp4 hch hap hrow hlt4;go_wp2_with (at_builtin;refine appW_ex rfl _ _ rfl (w.heap.size+2) (.slice A3 j c3) j cs rfl (row_fr HROW.out ((Zf w4).alloc _) (fun _ _=>non _)) ⟨w4.heap.size,0,none⟩ 1 rfl [vu8 xk,vu64 xn,.string x',vu8 xo,.slice A4 xl.length c4] rfl (new_cells _ _ _) (one_ex _ _ _ _ _ _ _) ?b1 ?b2 ?k)
    case b1=>have:=HLS.out;omega
    case b2=>simp;omega
    case k=>
     intro g cap w6 hr6 hf6 hg6;obtain⟨W5,hW5⟩:∃W5,W5=w4.alloc (.cells #[vu8 xk,vu64 xn,.string x',vu8 xo,.slice A4 xl.length c4] 44):=⟨_,rfl⟩;have hf5:Fr Non w4 W5:=by rw[hW5];exact(Zf w4).alloc _
     have hf6':Fr (fun k=>(Value.slice A3 j c3).ownBlock=some k) W5 w6:=by rw[hW5];exact hf6
     have hg6':(Value.slice A3 j c3).ownBlock=some g∨W5.heap.size≤g:=by rw[hW5];simpa using hg6
     have hlast:∀q,(Value.slice A3 j c3).ownBlock=some q→w.heap.size+2≤q∧q<wr.heap.size:=fun q hq=>by
      obtain⟨⟨_,h,_⟩,_⟩:=HOW.out;exact h.lt q hq
     have hd:Chunks (fun q=>NewX (w.heap.size+2) r va4 vb4 W5 q∧(Value.slice A3 j c3).ownBlock≠some q) W5 5 [y.d] [vu8 xk,vu64 xn,.string x',vu8 xo,.slice A4 xl.length c4]:=by
      have:=chunk_ex y (A:=A4) (c:=c4) (ok:=fun q=>NewX (w.heap.size+2) r va4 vb4 W5 q∧(Value.slice A3 j c3).ownBlock≠some q) (w:=W5);rw[HY.out] at this ⊢;simp only[Ex.kind,Ex.num,Ex.name,Ex.op,Ex.kids] at this;rw[HKL.out] at this;exact this hc4 p2 (HR4.out.fr hf5 (fun _ _=>non _) fun q hq=>⟨⟨by have:=hq.1;omega,Nat.lt_of_lt_of_le hq.2.1 hf5.size,hq.2.2⟩,fun e=>by have:=(hlast q e).2;have:=hq.1;omega⟩)
     have how':=OwnN.snoc HAP.out HCH.out (by omega) HN.out HP4.out.at_ hd hf5 hr6 hf6' hg6';have hp6:=(HP.out.trans HP4.out).more (hf5.non.trans hf6') (fun q hq=>⟨by have:=(hlast q hq).1;omega,HAP.out q hq⟩);have hq:∀q,q<wr.heap.size→¬RS r va2 vb2 q→¬RS r va4 vb4 q:=fun q h1 h2 h=>by
      rcases HP4.out.grow q h with h|h
      ·exact h2 h
      ·omega
     have hb1:=Zb (Zb (Zb HB1.out HP4.out.fr HQ1.out) hf5 (non _)) hf6' (fun e=>by have:=(hlast _ e).1;omega);have hb2:=Zb (Zb (Zb HB2.out HP4.out.fr HQ2.out) hf5 (non _)) hf6' (fun e=>by have:=(hlast _ e).1;omega);have HOW6:=Zh how';have HP6:=Zh hp6;have HQ1':=Zh (hq _ (by omega) HQ1.out);have HQ2':=Zh (hq _ (by omega) HQ2.out);have HB1':=Zh hb1;have HB2':=Zh hb2
     clear how' hp6 hq hb1 hb2 hd hf6 hr6 hg6 hf5 hf6' hg6' hlast hW5;go_wp2_with fail;go_roundw
     case rel=>exact⟨j+1,va4,vb4,by go_num,by omega,by rw[HSN.out];exact HP6.out,HQ1'.out,HQ2'.out,HB1'.out,HB2'.out,by rw[HSN.out];show OwnN _ _ _ _ _ _ _ _ (Ex.ds (_++[y]));rw[ds_snoc];exact HOW6.out⟩
     case measure=>simp[intOf];omega
   ·obtain rfl:j=l.length:=by omega
    have htk:l.take l.length=l:=List.take_length;have hb1:=HB1.out;have hb2:=HB2.out;have gf:=(Zc hb1).2;have kf:=(Zc hb2).2;have hbs:=blk_set hb1 4 (.slice A3 l.length c3);have k0:=(Zc hb2).1 0 _ rfl;have k1:=(Zc hb2).1 1 _ rfl;have k2:=(Zc hb2).1 2 _ rfl;have k3:=(Zc hb2).1 3 _ rfl;have k4:=(Zc hb2).1 4 _ rfl;have g0:=(Zc hb1).1 0 _ rfl;have g1:=(Zc hb1).1 1 _ rfl;have g2:=(Zc hb1).1 2 _ rfl;have g3:=(Zc hb1).1 3 _ rfl;clear hb1 hb2 hbs;go_wp2_with fail;refine bodyPost_ret (v:=exV k n s' o A3 l.length c3) ?_ rfl ?_
    ·simp[results,Tryz.results32,go_sem,k0,k1,k2,k3,k4]
    ·rw[←HS'.out,←HLA.out];have hrows:=HOW.out.rows;rw[htk] at hrows;have hp0:=HP.out;rw[htk] at hp0;have hstep:∀wz,Fr (fun q=>q=w.heap.size∨q=w.heap.size+1) wr wz→∃A' c' va' vb',Ending.returned (exV k n s' o A3 l.length c3)= .returned (exV k n s' o A' l.length c')∧RnP base r w va vb wz (Ex.rnSs l La).2 va' vb'∧l.length≤c'∧RdRows (NewX w.heap.size r va' vb' wz) wz 5 A' 0 (Ex.ds (Ex.rnSs l La).1):=fun wz hfz=>
      ⟨A3,c3,va2,vb2,rfl,hp0.more hfz (fun q hq=>by rcases hq with rfl|rfl;exact⟨Nat.le_refl _,HQ1.out⟩;exact⟨by omega,HQ2.out⟩),hc3,
        hrows.fr hfz (fun q hq h=>by have:=hq.1;omega) fun q hq=>⟨by have:=hq.1;omega,Nat.lt_of_lt_of_le hq.2.1 hfz.size,hq.2.2⟩⟩
     refine hstep _ ?_
     repeat (first|with_reducible exact Fr.refl _ _|(with_reducible refine Fr.setCell ?_ _ _ ?_;rotate_left;first|exact .inl (.inl rfl)|exact .inl (.inr rfl)))
def rnL:List ByteArray→List ByteArray→List ByteArray×List ByteArray
 |[],L=>([],L)
 |s::l,L=>let a:=rnOf L s;let q:=rnL l a.2;(a.1::q.1,q.2)
mutual
def St.rnS:St→List ByteArray→St×List ByteArray
 | .mk k nm fr sec mt ex args body els,L=>
   let a:=rnOf L nm;let b:=rnOf a.2 fr;let c:=Ex.rnSs ex b.2;let d:=rnL args c.2;let e:=St.rnSs body d.2;let f:=St.rnSs els e.2
   (.mk k a.1 b.1 sec mt c.1 d.1 e.1 f.1,f.2)
def St.rnSs:List St→List ByteArray→List St×List ByteArray
 |[],L=>([],L)
 |s::l,L=>let a:=St.rnS s L;let q:=St.rnSs l a.2;(a.1::q.1,q.2)
end
mutual
def St.nms:St→Nat
 | .mk _ _ _ _ _ ex args body els=>2+Ex.sizes ex+args.length+St.nmss body+St.nmss els
def St.nmss:List St→Nat
 |[]=>0
 |s::l=>St.nms s+St.nmss l
end
theorem rnL_length:∀(l L:List ByteArray),(rnL l L).1.length=l.length
 |[],_=>rfl
 |e::l,L=>by rw[rnL];simp[rnL_length l]
theorem rnL_snoc:∀(l:List ByteArray) (x:ByteArray) (L:List ByteArray),rnL (l++[x]) L=((rnL l L).1++[(rnOf (rnL l L).2 x).1],(rnOf (rnL l L).2 x).2)
 |[],x,L=>by rw[List.nil_append,rnL,rnL,rnL];rfl
 |e::l,x,L=>by rw[List.cons_append,rnL,rnL_snoc l x,rnL];rfl
theorem rnL_len:∀(l L:List ByteArray),L.length≤(rnL l L).2.length∧(rnL l L).2.length≤L.length+l.length
 |[],L=>by simp[rnL]
 |e::l,L=>by
  have h1:=rnOf_len L e;have h2:=rnL_len l (rnOf L e).2;rw[rnL];simp only[List.length_cons];omega
theorem rnStS_length:∀(l:List St) (L:List ByteArray),(St.rnSs l L).1.length=l.length
 |[],_=>by rw[St.rnSs]
 |e::l,L=>by rw[St.rnSs];simp[rnStS_length l]
theorem rnStS_snoc:∀(l:List St) (x:St) (L:List ByteArray),St.rnSs (l++[x]) L=((St.rnSs l L).1++[(x.rnS (St.rnSs l L).2).1],(x.rnS (St.rnSs l L).2).2)
 |[],x,L=>by rw[List.nil_append,St.rnSs,St.rnSs,St.rnSs];rfl
 |e::l,x,L=>by rw[List.cons_append,St.rnSs,rnStS_snoc l x,St.rnSs];rfl
mutual
theorem rnSt_len:∀(e:St) (L:List ByteArray),L.length≤(e.rnS L).2.length∧(e.rnS L).2.length≤L.length+e.nms
 | .mk k nm fr se mt ex args body els,L=>by
   rw[St.rnS,St.nms];have h1:=rnOf_len L nm;have h2:=rnOf_len (rnOf L nm).2 fr;have h3:=rnSs_len ex (rnOf (rnOf L nm).2 fr).2;have h4:=rnL_len args (Ex.rnSs ex (rnOf (rnOf L nm).2 fr).2).2;have h5:=rnStS_len body (rnL args (Ex.rnSs ex (rnOf (rnOf L nm).2 fr).2).2).2;have h6:=rnStS_len els (St.rnSs body (rnL args (Ex.rnSs ex (rnOf (rnOf L nm).2 fr).2).2).2).2;simp only;omega
theorem rnStS_len:∀(l:List St) (L:List ByteArray),L.length≤(St.rnSs l L).2.length∧(St.rnSs l L).2.length≤L.length+St.nmss l
 |[],L=>by simp[St.rnSs]
 |e::l,L=>by
  rw[St.rnSs,St.nmss];have h1:=rnSt_len e L;have h2:=rnStS_len l (e.rnS L).2;simp only;omega
end
theorem st_len_nmss (l:List St):l.length≤St.nmss l:=by
 induction l with
 |nil=>simp
 |cons e l ih=>cases e;simp[St.nmss,St.nms];omega
theorem st_take_nmss (l:List St) (j:Nat) (h:j<l.length):St.nmss (l.take j)+l[j].nms≤St.nmss l:=by
 induction l generalizing j with
 |nil=>simp at h
 |cons e l ih=>cases j with
  |zero=>simp[St.nmss]
  |succ j=>have:=ih j (by simpa using h);simp[St.nmss];omega
theorem sds_snoc (l:List St) (y:St):St.ds (l++[y])=St.ds l++[y.d]:=by rw[St.ds_eq,St.ds_eq,List.map_append];rfl
def NewB (B Z r:Nat) (va vb:Value) (k:Nat):Prop:=B≤k∧k<Z∧¬RS r va vb k
theorem RnP.nrs {base r:Nat} {w w':World} {va vb va' vb':Value} {L':List ByteArray} (h:RnP base r w va vb w' L' va' vb') {q:Nat} (h1:q<w.heap.size) (h2:¬RS r va vb q):¬RS r va' vb' q:=fun h'=>by
 rcases h.grow q h' with h'|h'
 ·exact h2 h'
 ·omega
theorem RdRows.goB {B Z r base sz:Nat} {w w':World} {va vb va' vb':Value} {L':List ByteArray} {A:Option Addr} {l:List (List D)} (h:RdRows (NewB B Z r va vb) w sz A 0 l) (hp:RnP base r w va vb w' L' va' vb') (hZ:Z≤w.heap.size):RdRows (NewB B Z r va' vb') w' sz A 0 l:=
 h.fr hp.fr (fun k hk=>hk.2.2) fun k hk=>⟨hk.1,hk.2.1,hp.nrs (by have:=hk.2.1;omega) hk.2.2⟩
theorem RdRows.toB {B B' Z r sz:Nat} {w w':World} {va vb:Value} {A:Option Addr} {l:List (List D)} {S:Nat→Prop} (h:RdRows (NewX B r va vb w) w sz A 0 l) (hf:Fr S w w') (hs:∀k,B≤k→¬S k) (hB:B'≤B) (hZ:w.heap.size≤Z):RdRows (NewB B' Z r va vb) w' sz A 0 l:=
 h.fr hf (fun k hk=>hs k hk.1) fun k hk=>⟨Nat.le_trans hB hk.1,Nat.lt_of_lt_of_le hk.2.1 hZ,hk.2.2⟩
theorem RdRows.onB {B Z r sz:Nat} {w w':World} {va vb:Value} {A:Option Addr} {l:List (List D)} {S:Nat→Prop} (h:RdRows (NewB B Z r va vb) w sz A 0 l) (hf:Fr S w w') (hs:∀k,B≤k→k<Z→¬S k):RdRows (NewB B Z r va vb) w' sz A 0 l:=
 h.fr hf (fun k hk=>hs k hk.1 hk.2.1) fun _ hk=>hk
theorem rnSt_eq (e:St) (L:List ByteArray):e.rnS L=
  (.mk e.kind (rnOf L e.name).1 (rnOf (rnOf L e.name).2 e.frm).1 e.sec e.mt (Ex.rnSs e.ex (rnOf (rnOf L e.name).2 e.frm).2).1 (rnL e.args (Ex.rnSs e.ex (rnOf (rnOf L e.name).2 e.frm).2).2).1
    (St.rnSs e.body (rnL e.args (Ex.rnSs e.ex (rnOf (rnOf L e.name).2 e.frm).2).2).2).1 (St.rnSs e.els (St.rnSs e.body (rnL e.args (Ex.rnSs e.ex (rnOf (rnOf L e.name).2 e.frm).2).2).2).2).1,
    (St.rnSs e.els (St.rnSs e.body (rnL e.args (Ex.rnSs e.ex (rnOf (rnOf L e.name).2 e.frm).2).2).2).2).2):=by
 cases e;rw[St.rnS];rfl
abbrev stB (k:UInt8) (nm fr:ByteArray) (sec mt:Bool) (v5 v6 v7 v8:Value):Array Value:=#[vu8 k,.string nm,.string fr,.bool sec,.bool mt,v5,v6,v7,v8]
theorem rstmts_any (N:Nat):∀(l:List St) (ok:Nat→Prop) (A:Option Addr) (c:Nat) (w:World) (base r:Nat) (L:List ByteArray) (va vb:Value),St.sizes l≤N→
   RdRows ok w 9 A 0 (St.ds l)→l.length≤c→l.length*144≤reach→(∀q,ok q→q<base)→RnAt base r w L va vb→L.length+St.nmss l≤1099511627776→
  Calls Tryz.prog 31 #[.pointer (some ⟨r,0,none⟩),.slice A l.length c] w fun e w'=>∃A' c' va' vb',e= .returned (.slice A' l.length c')∧
   RnP base r w va vb w' (St.rnSs l L).2 va' vb'∧l.length≤c'∧RdRows (NewX w.heap.size r va' vb' w') w' 9 A' 0 (St.ds (St.rnSs l L).1):=by
 induction N with
 |zero=>
  intro l ok A c w base r L va vb hN hr hlc hc hok hat hL;obtain rfl:l=[]:=by cases l with|nil=>rfl|cons s l=>cases s;simp[St.sizes,St.size] at hN
  go_enter Tryz.func31,Tryz.ntmps31;go_wp2_with fail;refine wp_loop_rounds 1 ?_;rw[rounds_succ];go_wp2_with fail;go_ret;rw[St.rnSs];exact⟨none,0,va,vb,rfl,RnP.refl hat (Zf _),Nat.le_refl _,trivial⟩
 |succ N ih=>
 intro l ok A c w base r L va vb hN hr hlc hc hok hat hL;have hlen:l.length≤140737488355328:=by unfold reach at hc;omega
 have HLS:=Zh (st_len_nmss l);have HR:=Zh hr;clear hr;have HOK:=Zh hok;clear hok;have IH:=Zh ih;clear ih;have HLT:=Zh hat.lt;have HAT:=Zh hat;clear hat;go_enter Tryz.func31,Tryz.ntmps31;go_wp2_with fail
 go_loopw [5,6] (fun v i wr=>∃(j:Nat) (va2 vb2:Value),i= .int .i64 j∧j≤l.length∧RnP base r w va vb wr (St.rnSs (l.take j) L).2 va2 vb2∧OwnN w.heap.size r 47 9 wr va2 vb2 v (St.ds (St.rnSs (l.take j) L).1)) (fun _ i _=>l.length-(intOf i).toNat)
 case atStart=>exact⟨0,va,vb,rfl,by omega,RnP.refl HAT.out (Zf _),OwnN.nil _ _ _ _ _ _ _⟩
 case round=>
  obtain⟨j,va2,vb2,rfl,hj,hp,hown⟩:=hrel;have hz:w.heap.size≤wr.heap.size:=hp.fr.size;obtain⟨A0,c0,rfl,hc0⟩:=hown.slice;have hn:(St.ds (St.rnSs (l.take j) L).1).length=j:=by rw[St.ds_length,rnStS_length,List.length_take];omega
  rw[hn] at hc0 hown ⊢;have HN:=Zh hn;clear hn;have HP:=Zh hp;clear hp;have HOW:=Zh hown;clear hown;by_cases hlt:j<l.length
  ·obtain⟨b,o1,A1,c1,A2,c2,A3,c3,A4,c4,rfl,hb,e0,e1,e2,e3,e4,e5,e6,e7,e8,⟨p1,q1,r1⟩,⟨p2,q2,r2⟩,⟨p3,q3,r3⟩,⟨p4,q4,r4⟩⟩:=at_st (HR.out.fr HP.out.fr (fun q hq h=>by have:=HOK.out q hq;have:=(HLT.out q h).1;omega) (fun _ h=>h)) j hlt;have HTS:=Zh (take_snoc l j hlt);have HSZ:=Zh (ssize_le l j hlt);have HLN:=Zh (rnStS_len (l.take j) L);have HLM:=Zh (st_take_nmss l j hlt);generalize l[j]=x at*;obtain⟨xk,xn,xf,xs,xm,xe,xa,xb,xl⟩:=x;simp only[St.kind,St.name,St.frm,St.sec,St.mt,St.ex,St.args,St.body,St.els] at e0 e1 e2 e3 e4 e5 e6 e7 e8 p1 q1 r1 p2 q2 r2 p3 q3 r3 p4 q4 r4;have R1:=Zh r1;have R2:=Zh r2;have R3:=Zh r3;have R4:=Zh r4
   clear r1 r2 r3 r4;have hL0:(St.rnSs (l.take j) L).2.length+(2+Ex.sizes xe+xa.length+St.nmss xb+St.nmss xl)≤1099511627776:=by have:=HLN.out;have:=HLM.out;rw[St.nms] at this;omega
   have hm1:xe.length≤140737488355328:=by unfold reach at q1;omega
   have hm2:xa.length≤140737488355328:=by unfold reach at q2;omega
   obtain⟨L0,hL0e⟩:∃L0,L0=(St.rnSs (l.take j) L).2:=⟨_,rfl⟩;have HP0:=HP.out;rw[←hL0e] at HP0 hL0;have HL0E:=Zh hL0e;clear hL0e;have HP0:=Zh HP0;obtain⟨wp,rfl⟩:∃wp:World,wp=wr:=⟨_,rfl⟩;go_upto_region 6 with fail;obtain⟨W1,HW1⟩:∃W1,W1=wp.alloc (.cells (stB xk xn xf xs xm (.slice A1 xe.length c1) (.slice A2 xa.length c2) (.slice A3 xb.length c3) (.slice A4 xl.length c4)) 47):=⟨_,rfl⟩;rw[show(wp.alloc (.cells #[vu8 xk,.string xn,.string xf,.bool xs,.bool xm,.slice A1 xe.length c1,.slice A2 xa.length c2,.slice A3 xb.length c3,.slice A4 xl.length c4] 47))=W1 from HW1.symm];have hf1:Fr Non wp W1:=by rw[HW1];exact(Zf wp).alloc _
   have hb1:W1.heap[wp.heap.size]? =some (.cells (stB xk xn xf xs xm (.slice A1 xe.length c1) (.slice A2 xa.length c2) (.slice A3 xb.length c3) (.slice A4 xl.length c4)) 47 (0,0)):=by rw[HW1];exact blk_new _ _ _
   have hz1:W1.heap.size=wp.heap.size+1:=by rw[HW1];simp
   clear HW1 e0 e1 e2 e3 e4 e5 e6 e7 e8;have hp1:RnP base r wp va2 vb2 W1 L0 va2 vb2:=RnP.refl HP0.out.at_ hf1;have hq1:¬RS r va2 vb2 wp.heap.size:=fun h=>by have:=(HP0.out.at_.lt _ h).2;omega
   have g1:=(Zc hb1).1 1 _ rfl;have B1:=Zh hb1;have P1:=Zh hp1;have Q1:=Zh hq1;clear hb1 hp1 hq1 hf1
   go_wp2_with fail;refine(of_any base r W1 L0 va2 vb2 xn P1.out.at_ (by omega)).mono ?_;rintro e w2 ⟨rfl,hst⟩;obtain⟨va3,vb3,hp⟩:=hst.p;obtain⟨xn',hxn'⟩:∃x,x=(rnOf L0 xn).1:=⟨_,rfl⟩;obtain⟨L1,hL1⟩:∃L1,L1=(rnOf L0 xn).2:=⟨_,rfl⟩;rw[←hxn'];rw[←hL1] at hp;have hl1:L1.length≤L0.length+1:=by rw[hL1];exact(rnOf_len L0 xn).2
   have hb2:=Zb B1.out hp.fr Q1.out;have hq2:=hp.nrs (q:=wp.heap.size) (by omega) Q1.out;have hz2:=hp.fr.size;have hs2:Fr (fun q=>q=wp.heap.size) w2 (w2.setCell ⟨wp.heap.size,1,none⟩ (.string xn')):=(Fr.refl (fun q=>q=wp.heap.size) w2).setCell _ _ (.inl rfl);have hp2:=(P1.out.trans hp).more hs2 (fun q e=>by subst e;exact⟨Nat.le_refl _,hq2⟩);clear g1;have g1:=(Zc hb2).1 1 _ rfl;have gf:=(Zc hb2).2;have hb3:=blk_set hb2 1 (.string xn');rw[←setCell_size w2 ⟨wp.heap.size,1,none⟩ (.string xn')] at hz2;have B2:=Zh hb3;have P2:=Zh hp2;have Q2:=Zh hq2;have XN:=Zh hxn';have XL1:=Zh hL1
   clear hb2 hb3 hp2 hq2 hst hp hs2 hxn' hL1 B1 P1 Q1;go_upto_region 7 with fail;generalize hw3:World.setCell w2 _ _=w3 at*;clear g1 gf hw3;have g2:=(Zc B2.out).1 2 _ rfl;go_wp2_with fail;refine(of_any base r w3 L1 va3 vb3 xf P2.out.at_ (by omega)).mono ?_;rintro e w4 ⟨rfl,hst⟩;obtain⟨va4,vb4,hp⟩:=hst.p;obtain⟨xf',hxf'⟩:∃x,x=(rnOf L1 xf).1:=⟨_,rfl⟩;obtain⟨L2,hL2⟩:∃L2,L2=(rnOf L1 xf).2:=⟨_,rfl⟩;rw[←hxf'];rw[←hL2] at hp;have hl2:L2.length≤L1.length+1:=by rw[hL2];exact(rnOf_len L1 xf).2
   have hb4:=Zb B2.out hp.fr Q2.out;have hq4:=hp.nrs (q:=wp.heap.size) (by omega) Q2.out;have hz4:=hp.fr.size;have hs4:Fr (fun q=>q=wp.heap.size) w4 (w4.setCell ⟨wp.heap.size,2,none⟩ (.string xf')):=(Fr.refl (fun q=>q=wp.heap.size) w4).setCell _ _ (.inl rfl);have hp4:=(P2.out.trans hp).more hs4 (fun q e=>by subst e;exact⟨Nat.le_refl _,hq4⟩);clear g2;have g2:=(Zc hb4).1 2 _ rfl;have gf:=(Zc hb4).2;have hb5:(w4.setCell ⟨wp.heap.size,2,none⟩ (.string xf')).heap[wp.heap.size]? =some (.cells (stB xk xn' xf' xs xm (.slice A1 xe.length c1) (.slice A2 xa.length c2) (.slice A3 xb.length c3) (.slice A4 xl.length c4)) 47 (0,0)):=blk_set hb4 2 (.string xf');rw[←setCell_size w4 ⟨wp.heap.size,2,none⟩ (.string xf')] at hz4;have B4:=Zh hb5;have P4:=Zh hp4;have Q4:=Zh hq4;have XF:=Zh hxf';have XL2:=Zh hL2
   clear hb4 hb5 hp4 hq4 hst hp hs4 hxf' hL2 B2 P2 Q2;go_upto_region 8 with fail;generalize hw5:World.setCell w4 _ _=w5 at*;clear g2 gf hw5;have HLT2:=Zh HP0.out.at_.lt;have HES:=Zh (ex_len_sizes xe);go_wp2_with fail
   go_loopw [8,9] (fun v i wq=>∃(j2:Nat) (va5 vb5:Value),i= .int .i64 j2∧j2≤xe.length∧RnP base r wp va2 vb2 wq (Ex.rnSs (xe.take j2) L2).2 va5 vb5∧¬RS r va5 vb5 wp.heap.size∧
    wq.heap[wp.heap.size]? =some (.cells (stB xk xn' xf' xs xm (.slice A1 xe.length c1) (.slice A2 xa.length c2) (.slice A3 xb.length c3) (.slice A4 xl.length c4)) 47 (0,0))∧
    OwnN (wp.heap.size+1) r 44 5 wq va5 vb5 v (Ex.ds (Ex.rnSs (xe.take j2) L2).1)) (fun _ i _=>xe.length-(intOf i).toNat)
   case atStart=>exact⟨0,va4,vb4,rfl,by omega,P4.out,Q4.out,B4.out,OwnN.nil _ _ _ _ _ _ _⟩
   case round=>
    obtain⟨j2,va5,vb5,rfl,hj2,hp5,hq5,hb5,hown5⟩:=hrel;have hz5:wp.heap.size+1≤wr.heap.size:=by have:=blk_lt hb5;omega
    have g5:=(Zc hb5).1 5 _ rfl;obtain⟨A5,c5,rfl,hc5⟩:=hown5.slice;have hn5:(Ex.ds (Ex.rnSs (xe.take j2) L2).1).length=j2:=by rw[Ex.ds_length,rnSs_length,List.length_take];omega
    rw[hn5] at hc5 hown5 ⊢;have HN5:=Zh hn5;have HP5:=Zh hp5;have HB5:=Zh hb5;have HQ5:=Zh hq5;have HOW5:=Zh hown5
    clear hn5 hp5 hb5 hq5 hown5;by_cases hlt5:j2<xe.length
    ·obtain⟨b,o1,Aa,ca,rfl,hb,e0,e1,e2,e3,e4,p1,p2,p3⟩:=at_ex (R1.out.fr HP5.out.fr (fun q hq h=>by have:=HOK.out q hq;have:=(HLT2.out q h).1;omega) (fun _ h=>h)) j2 hlt5;have HTS5:=Zh (take_snoc xe j2 hlt5);have HLN5:=Zh (rnSs_len (xe.take j2) L2);have HLM5:=Zh (ex_take_sizes xe j2 hlt5);generalize xe[j2]=y at*;obtain⟨yk,yn,ys,yo,yl⟩:=y;have P3:=Zh p3;clear p3;simp only[Ex.kind,Ex.num,Ex.name,Ex.op,Ex.kids] at e0 e1 e2 e3 e4 p1 p2;go_wp2_with fail;refine(rexpr_any _ yk yn ys yo yl ok Aa ca wr base r (Ex.rnSs (xe.take j2) L2).2 va5 vb5 (Nat.le_refl _) P3.out p1 p2 HOK.out HP5.out.at_ (by have:=HLN5.out;have:=HLM5.out;omega)).mono ?_;rintro e w6 ⟨A6,c6,va6,vb6,rfl,hp6,hc6,hr6⟩;obtain⟨y,hy⟩:∃y,y=(Ex.rnS (.mk yk yn ys yo yl) (Ex.rnSs (xe.take j2) L2).2).1:=⟨_,rfl⟩;obtain⟨L6,hL6⟩:∃L6,L6=(Ex.rnS (.mk yk yn ys yo yl) (Ex.rnSs (xe.take j2) L2).2).2:=⟨_,rfl⟩;have hsn:=rnSs_snoc (xe.take j2) (.mk yk yn ys yo yl) L2;rw[←HTS5.out,←hy,←hL6] at hsn;rw[rnS_eq] at hy hL6;simp only[Ex.kind,Ex.num,Ex.name,Ex.op,Ex.kids] at hy hL6;rw[←hL6] at hp6;obtain⟨y',hy'⟩:∃x',x'=(rnOf (Ex.rnSs (xe.take j2) L2).2 ys).1:=⟨_,rfl⟩;obtain⟨k',hk'⟩:∃k',k'=(Ex.rnSs yl (rnOf (Ex.rnSs (xe.take j2) L2).2 ys).2).1:=⟨_,rfl⟩;rw[←hy',←hk'] at hy;rw[←hy'];rw[←hk'] at hr6;have hkl:k'.length=yl.length:=by rw[hk',rnSs_length]
     obtain⟨⟨cs,hrow,hch⟩,hap⟩:=HOW5.out.go hp6;have hz6:=hp6.fr.size;rw[HN5.out] at hrow;have HCH:=Zh hch;have HAP:=Zh hap;have HROW:=Zh hrow
     have HSN:=Zh hsn;have HY:=Zh hy;have HR6:=Zh hr6;have HKL:=Zh hkl;have HP6:=Zh hp6
     clear hy' hk' hL6 hsn hy hr6 hkl hp6 hch hap hrow;go_wp2_with (at_builtin;refine appW_ex rfl _ _ rfl (wp.heap.size+1) (.slice A5 j2 c5) j2 cs rfl (row_fr HROW.out ((Zf w6).alloc _) (fun _ _=>non _)) ⟨w6.heap.size,0,none⟩ 1 rfl [vu8 yk,vu64 yn,.string y',vu8 yo,.slice A6 yl.length c6] rfl (new_cells _ _ _) (one_ex _ _ _ _ _ _ _) ?b1 ?b2 ?k)
     case b1=>have:=HES.out;omega
     case b2=>simp;omega
     case k=>
      intro g cap w8 hr8 hf8 hg8;obtain⟨W7,hW7⟩:∃W5,W5=w6.alloc (.cells #[vu8 yk,vu64 yn,.string y',vu8 yo,.slice A6 yl.length c6] 44):=⟨_,rfl⟩;have hf7:Fr Non w6 W7:=by rw[hW7];exact(Zf w6).alloc _
      have hf8':Fr (fun k=>(Value.slice A5 j2 c5).ownBlock=some k) W7 w8:=by rw[hW7];exact hf8
      have hg8':(Value.slice A5 j2 c5).ownBlock=some g∨W7.heap.size≤g:=by rw[hW7];simpa using hg8
      have hlast:∀q,(Value.slice A5 j2 c5).ownBlock=some q→wp.heap.size+1≤q∧q<wr.heap.size:=fun q hq=>by
       obtain⟨⟨_,h,_⟩,_⟩:=HOW5.out;exact h.lt q hq
      have hd:Chunks (fun q=>NewX (wp.heap.size+1) r va6 vb6 W7 q∧(Value.slice A5 j2 c5).ownBlock≠some q) W7 5 [y.d] [vu8 yk,vu64 yn,.string y',vu8 yo,.slice A6 yl.length c6]:=by
       have:=chunk_ex y (A:=A6) (c:=c6) (ok:=fun q=>NewX (wp.heap.size+1) r va6 vb6 W7 q∧(Value.slice A5 j2 c5).ownBlock≠some q) (w:=W7);rw[HY.out] at this ⊢;simp only[Ex.kind,Ex.num,Ex.name,Ex.op,Ex.kids] at this;rw[HKL.out] at this;exact this hc6 p2 (HR6.out.fr hf7 (fun _ _=>non _) fun q hq=>⟨⟨by have:=hq.1;omega,Nat.lt_of_lt_of_le hq.2.1 hf7.size,hq.2.2⟩,fun e=>by have:=(hlast q e).2;have:=hq.1;omega⟩)
      have how':=OwnN.snoc HAP.out HCH.out (by omega) HN5.out HP6.out.at_ hd hf7 hr8 hf8' hg8';have hp8:=(HP5.out.trans HP6.out).more (hf7.non.trans hf8') (fun q hq=>⟨by have:=(hlast q hq).1;omega,HAP.out q hq⟩);have hq8:=HP6.out.nrs (q:=wp.heap.size) (by omega) HQ5.out;have hb8:=Zb (Zb (Zb HB5.out HP6.out.fr HQ5.out) hf7 (non _)) hf8' (fun e=>by have:=(hlast _ e).1;omega);have HOW8:=Zh how';have HP8:=Zh hp8;have HQ8:=Zh hq8;have HB8:=Zh hb8
      clear how' hp8 hq8 hb8 hd hf8 hr8 hg8 hf7 hf8' hg8' hlast hW7;go_wp2_with fail;go_roundw
      case rel=>exact⟨j2+1,va6,vb6,by go_num,by omega,by rw[HSN.out];exact HP8.out,HQ8.out,HB8.out,by rw[HSN.out];show OwnN _ _ _ _ _ _ _ _ (Ex.ds (_++[y]));rw[ds_snoc];exact HOW8.out⟩
      case measure=>simp[intOf];omega
    ·obtain rfl:j2=xe.length:=by omega
     have htk:xe.take xe.length=xe:=List.take_length;obtain⟨xe',hxe'⟩:∃x,x=(Ex.rnSs xe L2).1:=⟨_,rfl⟩;obtain⟨L3,hL3⟩:∃L3,L3=(Ex.rnSs xe L2).2:=⟨_,rfl⟩;have hl3:L3.length≤L2.length+Ex.sizes xe:=by rw[hL3];exact(rnSs_len xe L2).2
     have hel:xe'.length=xe.length:=by rw[hxe',rnSs_length]
     have hp5:=HP5.out;rw[htk,←hL3] at hp5;have hrw:=HOW5.out.rows;rw[htk,←hxe'] at hrw;have hs5:Fr (fun q=>q=wp.heap.size) wr (wr.setCell ⟨wp.heap.size,5,none⟩ (.slice A5 xe.length c5)):=(Fr.refl (fun q=>q=wp.heap.size) wr).setCell _ _ (.inl rfl);have hp6:=hp5.more hs5 (fun q e=>by subst e;exact⟨Nat.le_refl _,HQ5.out⟩);have hb6:(wr.setCell ⟨wp.heap.size,5,none⟩ (.slice A5 xe.length c5)).heap[wp.heap.size]? =some (.cells (stB xk xn' xf' xs xm (.slice A5 xe.length c5) (.slice A2 xa.length c2) (.slice A3 xb.length c3) (.slice A4 xl.length c4)) 47 (0,0)):=blk_set HB5.out 5 _;have hr6:=hrw.toB hs5 (Z:=wr.heap.size) (B':=wp.heap.size+1) (fun k hk e=>by omega) (Nat.le_refl _) (Nat.le_refl _);have gf:=(Zc HB5.out).2;have P6:=Zh hp6;have B6:=Zh hb6;have E6:=Zh hr6;have Q6:=Zh HQ5.out;have XE:=Zh hxe';have XL3:=Zh hL3;have HEL:=Zh hel
     have hz6:wr.heap.size≤(wr.setCell ⟨wp.heap.size,5,none⟩ (.slice A5 xe.length c5)).heap.size:=hs5.size;obtain⟨Z6,hZ6⟩:∃Z,Z=wr.heap.size:=⟨_,rfl⟩;rw[←hZ6] at E6 hz6;have hZ6':wp.heap.size+1≤Z6:=by omega
     clear hp5 hp6 hb6 hr6 hrw hs5 hxe' hL3 hel HOW5 HP5 HB5 HQ5 HN5;go_upto_region 14 with fail;generalize hw6:World.setCell wr _ _=w6 at*;clear g5 gf hw6 hZ6;go_wp2_with fail
     go_loopw [10,11] (fun v i wq=>∃(j3:Nat) (va6 vb6:Value),i= .int .i64 j3∧j3≤xa.length∧RnP base r wp va2 vb2 wq (rnL (xa.take j3) L3).2 va6 vb6∧¬RS r va6 vb6 wp.heap.size∧
      wq.heap[wp.heap.size]? =some (.cells (stB xk xn' xf' xs xm (.slice A5 xe.length c5) (.slice A2 xa.length c2) (.slice A3 xb.length c3) (.slice A4 xl.length c4)) 47 (0,0))∧
      RdRows (NewB (wp.heap.size+1) Z6 r va6 vb6) wq 5 A5 0 (Ex.ds xe')∧Z6≤wq.heap.size∧OwnN Z6 r 9 1 wq va6 vb6 v ((rnL (xa.take j3) L3).1.map strD)) (fun _ i _=>xa.length-(intOf i).toNat)
     case atStart=>exact⟨0,va5,vb5,rfl,by omega,P6.out,Q6.out,B6.out,E6.out,hz6,OwnN.nil _ _ _ _ _ _ _⟩
     case round=>
      obtain⟨j3,va6,vb6,rfl,hj3,hp7,hq7,hb7,he7,hZr,hown7⟩:=hrel;have hz7:wp.heap.size+1≤wr.heap.size:=by have:=blk_lt hb7;omega
      have g6:=(Zc hb7).1 6 _ rfl;obtain⟨A7,c7,rfl,hc7⟩:=hown7.slice;have hn7:((rnL (xa.take j3) L3).1.map strD).length=j3:=by rw[List.length_map,rnL_length,List.length_take];omega
      rw[hn7] at hc7 hown7 ⊢;have HN7:=Zh hn7;have HP7:=Zh hp7;have HB7:=Zh hb7;have HQ7:=Zh hq7;have HOW7:=Zh hown7;have HE7:=Zh he7
      clear hn7 hp7 hb7 hq7 hown7 he7;by_cases hlt7:j3<xa.length
      ·obtain⟨b,o1,rfl,hb,e0⟩:=at_str (R2.out.fr HP7.out.fr (fun q hq h=>by have:=HOK.out q hq;have:=(HLT2.out q h).1;omega) (fun _ h=>h)) j3 hlt7;have HTS7:=Zh (take_snoc xa j3 hlt7);have HLN7:=Zh (rnL_len (xa.take j3) L3);have hlt8:(xa.take j3).length≤xa.length:=by rw[List.length_take];omega
       generalize xa[j3]=y at*;go_wp2_with fail;refine(of_any base r wr (rnL (xa.take j3) L3).2 va6 vb6 y HP7.out.at_ (by have:=HLN7.out;omega)).mono ?_;rintro e w8 ⟨rfl,hst⟩;obtain⟨va8,vb8,hp8⟩:=hst.p;have hsn:=rnL_snoc (xa.take j3) y L3;obtain⟨y',hy'⟩:∃x',x'=(rnOf (rnL (xa.take j3) L3).2 y).1:=⟨_,rfl⟩;obtain⟨L8,hL8⟩:∃x',x'=(rnOf (rnL (xa.take j3) L3).2 y).2:=⟨_,rfl⟩;rw[←HTS7.out,←hy',←hL8] at hsn;rw[←hL8] at hp8;rw[←hy'];obtain⟨⟨cs,hrow,hch⟩,hap⟩:=HOW7.out.go hp8;have hz8:=hp8.fr.size;rw[HN7.out] at hrow;have HCH:=Zh hch;have HAP:=Zh hap;have HROW:=Zh hrow;have HSN:=Zh hsn;have HP8:=Zh hp8
       have HE8:=Zh (HE7.out.goB hp8 hZr);clear hy' hL8 hsn hp8 hch hap hrow hst;go_wp2_with (at_builtin;refine appW_str rfl _ _ rfl Z6 (.slice A7 j3 c7) j3 cs rfl (row_fr HROW.out ((Zf w8).alloc _) (fun _ _=>non _)) ⟨w8.heap.size,0,none⟩ 1 rfl [.string y'] rfl (new_cells _ _ _) ?one ?b1 ?b2 ?k)
       case one=>intro u hu;simp at hu;subst hu;rfl
       case b1=>omega
       case b2=>simp;omega
       case k=>
        intro g cap w10 hr10 hf10 hg10;obtain⟨W9,hW9⟩:∃W5,W5=w8.alloc (.cells #[.string y'] 9):=⟨_,rfl⟩;have hf9:Fr Non w8 W9:=by rw[hW9];exact(Zf w8).alloc _
        have hf10':Fr (fun k=>(Value.slice A7 j3 c7).ownBlock=some k) W9 w10:=by rw[hW9];exact hf10
        have hg10':(Value.slice A7 j3 c7).ownBlock=some g∨W9.heap.size≤g:=by rw[hW9];simpa using hg10
        have hlast:∀q,(Value.slice A7 j3 c7).ownBlock=some q→Z6≤q∧q<wr.heap.size:=fun q hq=>by
         obtain⟨⟨_,h,_⟩,_⟩:=HOW7.out;exact h.lt q hq
        have hd:Chunks (fun q=>NewX Z6 r va8 vb8 W9 q∧(Value.slice A7 j3 c7).ownBlock≠some q) W9 1 [strD y'] [.string y']:=⟨_,[],rfl,rfl,rfl,⟨_,_,rfl,rfl,rfl⟩,rfl⟩;have how':=OwnN.snoc HAP.out HCH.out (by omega) HN7.out HP8.out.at_ hd hf9 hr10 hf10' hg10';have hp10:=(HP7.out.trans HP8.out).more (hf9.non.trans hf10') (fun q hq=>⟨by have:=(hlast q hq).1;omega,HAP.out q hq⟩);have hZ10:Z6≤w10.heap.size:=by have:=hf9.size;have:=hf10'.size;omega
        have hq10:=HP8.out.nrs (q:=wp.heap.size) (by omega) HQ7.out;have hb10:=Zb (Zb (Zb HB7.out HP8.out.fr HQ7.out) hf9 (non _)) hf10' (fun e=>by have:=(hlast _ e).1;omega);have he10:=(HE8.out.onB hf9 (fun k _ _=>non k)).onB hf10' (fun k h1 h2 e=>by have:=(hlast _ e).1;omega);have HOW10:=Zh how';have HP10:=Zh hp10;have HQ10:=Zh hq10;have HB10:=Zh hb10;have HE10:=Zh he10
        clear how' hp10 hq10 hb10 he10 hd hf10 hr10 hg10 hf9 hf10' hg10' hlast hW9;go_wp2_with fail;go_roundw
        case rel=>exact⟨j3+1,va8,vb8,by go_num,by omega,by rw[HSN.out];exact HP10.out,HQ10.out,HB10.out,HE10.out,hZ10,by rw[HSN.out];show OwnN _ _ _ _ _ _ _ _ ((_++[y']).map strD);rw[List.map_append];exact HOW10.out⟩
        case measure=>simp[intOf];omega
      ·obtain rfl:j3=xa.length:=by omega
       have htk7:xa.take xa.length=xa:=List.take_length;obtain⟨xa',hxa'⟩:∃x,x=(rnL xa L3).1:=⟨_,rfl⟩;obtain⟨L4,hL4⟩:∃L4,L4=(rnL xa L3).2:=⟨_,rfl⟩;have hl4:L4.length≤L3.length+xa.length:=by rw[hL4];exact(rnL_len xa L3).2
       have hal:xa'.length=xa.length:=by rw[hxa',rnL_length]
       have hp7:=HP7.out;rw[htk7,←hL4] at hp7;have hrw:=HOW7.out.rows;rw[htk7,←hxa'] at hrw;have hs7:Fr (fun q=>q=wp.heap.size) wr (wr.setCell ⟨wp.heap.size,6,none⟩ (.slice A7 xa.length c7)):=(Fr.refl (fun q=>q=wp.heap.size) wr).setCell _ _ (.inl rfl);have hp8:=hp7.more hs7 (fun q e=>by subst e;exact⟨Nat.le_refl _,HQ7.out⟩);have hb8:(wr.setCell ⟨wp.heap.size,6,none⟩ (.slice A7 xa.length c7)).heap[wp.heap.size]? =some (.cells (stB xk xn' xf' xs xm (.slice A5 xe.length c5) (.slice A7 xa.length c7) (.slice A3 xb.length c3) (.slice A4 xl.length c4)) 47 (0,0)):=blk_set HB7.out 6 _;have ha8:=hrw.toB hs7 (Z:=wr.heap.size) (B':=wp.heap.size+1) (fun k hk e=>by omega) (by omega) (Nat.le_refl _);have he8:=HE7.out.onB hs7 (fun k h1 h2 e=>by omega);have gf:=(Zc HB7.out).2;have P8:=Zh hp8;have B8:=Zh hb8;have S8:=Zh ha8;have E8:=Zh he8;have Q8:=Zh HQ7.out;have XA:=Zh hxa';have XL4:=Zh hL4;have HAL:=Zh hal
       have hz8:wr.heap.size≤(wr.setCell ⟨wp.heap.size,6,none⟩ (.slice A7 xa.length c7)).heap.size:=hs7.size;obtain⟨Z8,hZ8⟩:∃Z,Z=wr.heap.size:=⟨_,rfl⟩;rw[←hZ8] at S8 hz8;have hZ8':Z6≤Z8:=by omega
       clear hp7 hp8 hb8 ha8 he8 hrw hs7 hxa' hL4 hal HOW7 HP7 HB7 HQ7 HN7 HE7;go_upto_region 20 with fail;generalize hw8:World.setCell wr _ _=w8 at*;clear g6 gf hw8 hZ8;have g7:=(Zc B8.out).1 7 _ rfl;have hsb:St.sizes xb≤N:=by have:=HSZ.out;rw[St.size] at this;omega
       have hsl:St.sizes xl≤N:=by have:=HSZ.out;rw[St.size] at this;omega
       go_wp2_with fail;refine(IH.out xb ok A3 c3 w8 base r L4 va6 vb6 hsb (R3.out.fr P8.out.fr (fun q hq h=>by have:=HOK.out q hq;have:=(HLT2.out q h).1;omega) (fun _ h=>h)) p3 q3 HOK.out P8.out.at_ (by omega)).mono ?_;rintro e w9 ⟨A9,c9,va9,vb9,rfl,hp9,hc9,hr9⟩;obtain⟨xb',hxb'⟩:∃x,x=(St.rnSs xb L4).1:=⟨_,rfl⟩;obtain⟨L5,hL5⟩:∃L5,L5=(St.rnSs xb L4).2:=⟨_,rfl⟩;have hl5:L5.length≤L4.length+St.nmss xb:=by rw[hL5];exact(rnStS_len xb L4).2
       have hbl:xb'.length=xb.length:=by rw[hxb',rnStS_length]
       rw[←hL5] at hp9;rw[←hxb'] at hr9;have hz9:=hp9.fr.size;have hs9:Fr (fun q=>q=wp.heap.size) w9 (w9.setCell ⟨wp.heap.size,7,none⟩ (.slice A9 xb.length c9)):=(Fr.refl (fun q=>q=wp.heap.size) w9).setCell _ _ (.inl rfl);have hq9:=hp9.nrs (q:=wp.heap.size) (by omega) Q8.out;have hp10:=(P8.out.trans hp9).more hs9 (fun q e=>by subst e;exact⟨Nat.le_refl _,hq9⟩);have hb9:=Zb B8.out hp9.fr Q8.out;have hb10:(w9.setCell ⟨wp.heap.size,7,none⟩ (.slice A9 xb.length c9)).heap[wp.heap.size]? =some (.cells (stB xk xn' xf' xs xm (.slice A5 xe.length c5) (.slice A7 xa.length c7) (.slice A9 xb.length c9) (.slice A4 xl.length c4)) 47 (0,0)):=blk_set hb9 7 _;have he10:=(E8.out.goB hp9 (by omega)).onB hs9 (fun k h1 h2 e=>by omega);have hs10:=(S8.out.goB hp9 hz8).onB hs9 (fun k h1 h2 e=>by omega);have hbd10:=hr9.toB hs9 (Z:=w9.heap.size) (B':=wp.heap.size+1) (fun k hk e=>by omega) (by omega) (Nat.le_refl _);have gf:=(Zc hb9).2;clear g7;have g7:=(Zc hb9).1 7 _ rfl;have P10:=Zh hp10;have B10:=Zh hb10;have E10:=Zh he10;have S10:=Zh hs10;have D10:=Zh hbd10;have Q10:=Zh hq9;have XB:=Zh hxb';have XL5:=Zh hL5;have HBL:=Zh hbl
       have hz10:w9.heap.size≤(w9.setCell ⟨wp.heap.size,7,none⟩ (.slice A9 xb.length c9)).heap.size:=hs9.size;obtain⟨Z10,hZ10⟩:∃Z,Z=w9.heap.size:=⟨_,rfl⟩;rw[←hZ10] at D10 hz10;have hZ10':Z8≤Z10:=by omega
       clear hp10 hb10 he10 hs10 hbd10 hq9 hb9 hp9 hr9 hs9 hxb' hL5 hbl P8 B8 E8 S8 Q8;go_upto_region 21 with fail;generalize hw10:World.setCell w9 _ _=w10 at*;clear g7 gf hw10 hZ10;have g8:=(Zc B10.out).1 8 _ rfl;go_wp2_with fail;refine(IH.out xl ok A4 c4 w10 base r L5 va9 vb9 hsl (R4.out.fr P10.out.fr (fun q hq h=>by have:=HOK.out q hq;have:=(HLT2.out q h).1;omega) (fun _ h=>h)) p4 q4 HOK.out P10.out.at_ (by omega)).mono ?_;rintro e w11 ⟨A11,c11,va11,vb11,rfl,hp11,hc11,hr11⟩;obtain⟨xl',hxl'⟩:∃x,x=(St.rnSs xl L5).1:=⟨_,rfl⟩;obtain⟨L6,hL6⟩:∃L6,L6=(St.rnSs xl L5).2:=⟨_,rfl⟩;have hll:xl'.length=xl.length:=by rw[hxl',rnStS_length]
       rw[←hL6] at hp11;rw[←hxl'] at hr11;have hz11:=hp11.fr.size;have hs11:Fr (fun q=>q=wp.heap.size) w11 (w11.setCell ⟨wp.heap.size,8,none⟩ (.slice A11 xl.length c11)):=(Fr.refl (fun q=>q=wp.heap.size) w11).setCell _ _ (.inl rfl);have hq11:=hp11.nrs (q:=wp.heap.size) (by omega) Q10.out;have hp12:=(P10.out.trans hp11).more hs11 (fun q e=>by subst e;exact⟨Nat.le_refl _,hq11⟩);have hb11:=Zb B10.out hp11.fr Q10.out;have hb12:(w11.setCell ⟨wp.heap.size,8,none⟩ (.slice A11 xl.length c11)).heap[wp.heap.size]? =some (.cells (stB xk xn' xf' xs xm (.slice A5 xe.length c5) (.slice A7 xa.length c7) (.slice A9 xb.length c9) (.slice A11 xl.length c11)) 47 (0,0)):=blk_set hb11 8 _;have he12:=(E10.out.goB hp11 (by omega)).onB hs11 (fun k h1 h2 e=>by omega);have hs12:=(S10.out.goB hp11 (by omega)).onB hs11 (fun k h1 h2 e=>by omega);have hd12:=(D10.out.goB hp11 hz10).onB hs11 (fun k h1 h2 e=>by omega);have hl12:=hr11.toB hs11 (Z:=w11.heap.size) (B':=wp.heap.size+1) (fun k hk e=>by omega) (by omega) (Nat.le_refl _);have gf:=(Zc hb11).2;clear g8;have g8:=(Zc hb11).1 8 _ rfl;have P12:=Zh hp12;have B12:=Zh hb12;have E12:=Zh he12;have S12:=Zh hs12;have D12:=Zh hd12;have L12:=Zh hl12;have Q12:=Zh hq11;have XL:=Zh hxl';have XL6:=Zh hL6;have HLL:=Zh hll
       have hz12:w11.heap.size≤(w11.setCell ⟨wp.heap.size,8,none⟩ (.slice A11 xl.length c11)).heap.size:=hs11.size;obtain⟨Z12,hZ12⟩:∃Z,Z=w11.heap.size:=⟨_,rfl⟩;rw[←hZ12] at L12 hz12;have hZ12':Z10≤Z12:=by omega
       clear hp12 hb12 he12 hs12 hd12 hl12 hq11 hb11 hp11 hr11 hs11 hxl' hL6 hll P10 B10 E10 S10 D10 Q10;go_upto_region 22 with fail;generalize hw12:World.setCell w11 _ _=w12 at*;clear g8 gf hw12 hZ12;have x0:=(Zc B12.out).1 0 _ rfl;have x1:=(Zc B12.out).1 1 _ rfl;have x2:=(Zc B12.out).1 2 _ rfl;have x3:=(Zc B12.out).1 3 _ rfl;have x4:=(Zc B12.out).1 4 _ rfl;have x5:=(Zc B12.out).1 5 _ rfl;have x6:=(Zc B12.out).1 6 _ rfl;have x7:=(Zc B12.out).1 7 _ rfl;have x8:=(Zc B12.out).1 8 _ rfl;obtain⟨y,hy⟩:∃y,y=(St.rnS (.mk xk xn xf xs xm xe xa xb xl) (St.rnSs (l.take j) L).2).1:=⟨_,rfl⟩;obtain⟨Ly,hLy⟩:∃Ly,Ly=(St.rnS (.mk xk xn xf xs xm xe xa xb xl) (St.rnSs (l.take j) L).2).2:=⟨_,rfl⟩;have hsn:=rnStS_snoc (l.take j) (.mk xk xn xf xs xm xe xa xb xl) L;rw[←HTS.out,←hy,←hLy] at hsn;rw[rnSt_eq] at hy hLy;simp only[St.kind,St.name,St.frm,St.sec,St.mt,St.ex,St.args,St.body,St.els] at hy hLy;rw[←HL0E.out,←XL1.out,←XL2.out,←XL3.out,←XL4.out,←XL5.out,←XL6.out] at hLy;rw[←HL0E.out,←XL1.out,←XL2.out,←XL3.out,←XL4.out,←XL5.out,←XN.out,←XF.out,←XE.out,←XA.out,←XB.out,←XL.out] at hy;subst hLy;obtain⟨⟨cs,hrow,hch⟩,hap⟩:=HOW.out.go P12.out;rw[HN.out] at hrow;have hzz:w.heap.size≤w12.heap.size:=by omega
       have HCH:=Zh hch;have HAP:=Zh hap;have HROW:=Zh hrow;have HSN:=Zh hsn;have HY:=Zh hy
       have HPP:=Zh (HP.out.trans P12.out);clear hch hap hrow hsn hy;go_wp2_with (at_builtin;refine appW_st rfl _ _ rfl w.heap.size (.slice A0 j c0) j cs rfl (row_fr HROW.out ((Zf w12).alloc _) (fun _ _=>non _)) ⟨w12.heap.size,0,none⟩ 1 rfl [vu8 xk,.string xn',.string xf',.bool xs,.bool xm,.slice A5 xe.length c5,.slice A7 xa.length c7,.slice A9 xb.length c9,.slice A11 xl.length c11] rfl (new_cells _ _ _) (one_st _ _ _ _ _ _ _ _ _ _ _ _ _ _ _ _ _) ?b1 ?b2 ?k)
       case b1=>have:=HLS.out;omega
       case b2=>simp;omega
       case k=>
        intro g cap w14 hr14 hf14 hg14;obtain⟨W13,hW13⟩:∃W5,W5=w12.alloc (.cells #[vu8 xk,.string xn',.string xf',.bool xs,.bool xm,.slice A5 xe.length c5,.slice A7 xa.length c7,.slice A9 xb.length c9,.slice A11 xl.length c11] 47):=⟨_,rfl⟩;have hf13:Fr Non w12 W13:=by rw[hW13];exact(Zf w12).alloc _
        have hf14':Fr (fun k=>(Value.slice A0 j c0).ownBlock=some k) W13 w14:=by rw[hW13];exact hf14
        have hg14':(Value.slice A0 j c0).ownBlock=some g∨W13.heap.size≤g:=by rw[hW13];simpa using hg14
        have hlast:∀q,(Value.slice A0 j c0).ownBlock=some q→w.heap.size≤q∧q<wp.heap.size:=fun q hq=>by
         obtain⟨⟨_,h,_⟩,_⟩:=HOW.out;exact h.lt q hq
        have key:∀Z k,Z≤w12.heap.size→NewB (wp.heap.size+1) Z r va11 vb11 k→NewX w.heap.size r va11 vb11 W13 k∧(Value.slice A0 j c0).ownBlock≠some k:=fun Z k hZ hk=>
         ⟨⟨by have:=hk.1;omega,by have:=hk.2.1;have:=hf13.size;omega,hk.2.2⟩,fun e=>by have:=(hlast k e).2;have:=hk.1;omega⟩
        have hd:Chunks (fun q=>NewX w.heap.size r va11 vb11 W13 q∧(Value.slice A0 j c0).ownBlock≠some q) W13 9 [y.d] [vu8 xk,.string xn',.string xf',.bool xs,.bool xm,.slice A5 xe.length c5,.slice A7 xa.length c7,.slice A9 xb.length c9,.slice A11 xl.length c11]:=by
         have:=chunk_st y (A1:=A5) (c1:=c5) (A2:=A7) (c2:=c7) (A3:=A9) (c3:=c9) (A4:=A11) (c4:=c11) (ok:=fun q=>NewX w.heap.size r va11 vb11 W13 q∧(Value.slice A0 j c0).ownBlock≠some q) (w:=W13);rw[HY.out] at this ⊢;simp only[St.kind,St.name,St.frm,St.sec,St.mt,St.ex,St.args,St.body,St.els] at this;rw[HEL.out,HAL.out,HBL.out,HLL.out] at this;exact this hc5 q1 (E12.out.fr hf13 (fun _ _=>non _) fun q hq=>key Z6 q (by omega) hq) hc7 q2 (S12.out.fr hf13 (fun _ _=>non _) fun q hq=>key Z8 q (by omega) hq)
          hc9 q3 (D12.out.fr hf13 (fun _ _=>non _) fun q hq=>key Z10 q (by omega) hq) hc11 q4 (L12.out.fr hf13 (fun _ _=>non _) fun q hq=>key Z12 q (by omega) hq)
        have how':=OwnN.snoc HAP.out HCH.out hzz HN.out P12.out.at_ hd hf13 hr14 hf14' hg14';have hp14:=HPP.out.more (hf13.non.trans hf14') (fun q hq=>⟨(hlast q hq).1,HAP.out q hq⟩);have HOW14:=Zh how';have HP14:=Zh hp14
        clear how' hp14 key hd hf14 hr14 hg14 hf13 hf14' hg14' hlast hW13 x0 x1 x2 x3 x4 x5 x6 x7 x8;go_wp2_with fail;go_roundw
        case rel=>exact⟨j+1,va11,vb11,by go_num,by omega,by rw[HSN.out];exact HP14.out,by rw[HSN.out];show OwnN _ _ _ _ _ _ _ _ (St.ds (_++[y]));rw[sds_snoc];exact HOW14.out⟩
        case measure=>simp[intOf];omega
  ·obtain rfl:j=l.length:=by omega
   have htk:l.take l.length=l:=List.take_length;go_wp2_with fail;go_ret;have hrows:=HOW.out.rows;have hp0:=HP.out;rw[htk] at hrows hp0;exact⟨A0,c0,va2,vb2,rfl,hp0,hc0,hrows⟩
end Go.Proofs.YtgiomfnpkkdknaaGreatDoor
