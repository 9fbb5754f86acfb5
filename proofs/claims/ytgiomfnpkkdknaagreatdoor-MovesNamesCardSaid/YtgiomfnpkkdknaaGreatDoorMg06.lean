/- Contracts and laws, Mg06 -/
import Derived.Test.YtgiomfnpkkdknaaGreatDoorMg01
import Derived.Test.YtgiomfnpkkdknaaGreatDoorMg05
import Derived.Deep.DeepCutAuto
import Derived.Deep.CutBlock
import Derived.Deep.RegionWith
import Derived.Deep.RegionLaw
namespace Go.Proofs.YtgiomfnpkkdknaaGreatDoor
open Go.RowKit
set_option linter.unusedVariables false
set_option linter.unusedSimpArgs false
set_option maxHeartbeats 8000000
set_option maxRecDepth 100000
def bt (s:ByteArray) (i:Nat):UInt8:=s.data.getD i 0
theorem bt_get {s:ByteArray} {i:Nat} (h:i<s.size):s[i]=bt s i:=by
 have h':i<s.data.size:=h;rw[bt,Array.getD,dif_pos h'];rfl
theorem ext_one {s:ByteArray} {i:Nat} (h:i<s.size):s.extract i (i+1)=⟨#[bt s i]⟩:=by
 have h':i<s.data.size:=h;apply ByteArray.ext;rw[ByteArray.data_extract];apply Array.ext
 ·simp;omega
 ·intro j h1 h2;simp at h2;subst h2;simp[bt,Array.getD,h'];intro h9;omega
def runD (p:UInt8→Bool) (s:ByteArray):Nat→Nat→Nat
 |0,e=>e
 |f+1,e=>if decide (e<s.size)&&p (bt s e) then runD p s f (e+1) else e
theorem runD_eq (p:UInt8→Bool) (s:ByteArray):∀(f a e:Nat),a≤e→e-a<f→(∀i,a≤i→i<e→i<s.size∧p (bt s i)=true)→¬(e<s.size∧p (bt s e)=true)→runD p s f a=e
 |0,a,e,h1,h2,_,_=>by omega
 |f+1,a,e,h1,h2,h3,h4=>by
  rw[runD];by_cases h:a=e
  ·subst h;rw[if_neg (by simpa using h4)]
  ·have:=h3 a (Nat.le_refl _) (by omega);rw[if_pos (by simpa using this)];exact runD_eq p s f (a+1) e (by omega) (by omega) (fun i hi hj=>h3 i (by omega) hj) h4
theorem number1_any (c:UInt8) (hd:digitM c=true) (w:World):Calls Tryz.prog 140 #[.string ⟨#[c]⟩] w fun e w'=>e= .returned (.tuple #[vu64 (UInt64.ofNat (c.toNat-48)),.bool true])∧w=w':=by
 have hd2:48≤c.toNat∧c.toNat≤57:=by simpa[digitM] using hd
 obtain⟨hd2,hd3⟩:=hd2;go_enter Tryz.func140,Tryz.ntmps140;go_wp2_with fail;refine wp_loop_rounds 2 ?_;rw[rounds_succ];go_wp2_with fail;rw[rounds_succ];go_wp2_with fail;have hv:(((((⟨#[c]⟩:ByteArray)[0]'(show 0<1 by decide)).toNat:Int)-48)%256)=(((UInt64.ofNat (c.toNat-48)).toNat:Nat):Int):=by
  show((c.toNat:Int)-48)%256=_
  rw[UInt64.toNat_ofNat_of_lt' (by show c.toNat-48<2^64;omega)];omega
 rw[hv];refine bodyPost_ret (v:=.tuple #[vu64 (UInt64.ofNat (c.toNat-48)),.bool true]) (by simp[results,Tryz.results140,go_sem]) rfl ⟨rfl,rfl⟩
theorem blk_put4 {w:World} {g:Nat} {a0 a1 a2 a3:Value} {T:TypeId} (h:w.heap[g]? =some (.cells #[a0,a1,a2,a3] T (0,0))) (v0 v1 v2 v3:Value):
  ((((w.setCell ⟨g,0,none⟩ v0).setCell ⟨g,1,none⟩ v1).setCell ⟨g,2,none⟩ v2).setCell ⟨g,3,none⟩ v3).heap[g]? =some (.cells #[v0,v1,v2,v3] T (0,0)):=by
 have h0:(w.setCell ⟨g,0,none⟩ v0).heap[g]? =some (.cells #[v0,a1,a2,a3] T (0,0)):=blk_set h 0 v0;have h1:((w.setCell ⟨g,0,none⟩ v0).setCell ⟨g,1,none⟩ v1).heap[g]? =some (.cells #[v0,v1,a2,a3] T (0,0)):=blk_set h0 1 v1;have h2:(((w.setCell ⟨g,0,none⟩ v0).setCell ⟨g,1,none⟩ v1).setCell ⟨g,2,none⟩ v2).heap[g]? =some (.cells #[v0,v1,v2,a3] T (0,0)):=blk_set h1 2 v2;exact blk_set h2 3 v3
theorem fr_put4 {g:Nat} {w0 w:World} (h:Fr Non w0 w) (hg:w0.heap.size≤g) (v0 v1 v2 v3:Value):Fr Non w0 ((((w.setCell ⟨g,0,none⟩ v0).setCell ⟨g,1,none⟩ v1).setCell ⟨g,2,none⟩ v2).setCell ⟨g,3,none⟩ v3):=
 (((h.setCell ⟨g,0,none⟩ _ (.inr hg)).setCell ⟨g,1,none⟩ _ (.inr hg)).setCell ⟨g,2,none⟩ _ (.inr hg)).setCell ⟨g,3,none⟩ _ (.inr hg)
def Tk.v (t:Tk):Value:=.agg #[vu8 t.kind,.string t.text,vu64 t.num,.int .i64 t.at_]
def oneS (s:ByteArray) (i:Nat):Option (Tk×Nat):=
 let e:=runD digitM s (s.size+1) i
 if i<e then(if e=i+1 then some (⟨3,⟨#[]⟩,UInt64.ofNat ((bt s i).toNat-48),i⟩,1) else none)
 else
  let e2:=runD partM s (s.size+1) i
  if i<e2 then(if e2-i≤16 then some (⟨if wordM (s.extract i e2) then 2 else 1,s.extract i e2,0,i⟩,e2-i) else none)
  else(lexSign s i).map fun x=>(⟨4,x,0,i⟩,x.size)
theorem lex_pos:∀x∈lexSigns,0<x.size:=by decide
theorem one_any (s:ByteArray) (i:Nat) (t:Tk) (n:Nat) (w:World) (hi:i<s.size) (hs:s.size≤1099511627776) (h:oneS s i=some (t,n)):
  Calls Tryz.prog 123 #[.string s,.int .i64 i] w fun e w'=>e= .returned (.tuple #[t.v,.int .i64 n,.int .i64 0])∧Fr Non w w':=by
 obtain⟨W1,HW1⟩:∃W1,W1=w.alloc (.cells #[.int .u8 0,.string ⟨#[]⟩,.int .u64 0,.int .i64 0] 134):=⟨_,rfl⟩;have hf1:Fr Non w W1:=by rw[HW1];exact(Zf w).alloc _
 have hb1:W1.heap[w.heap.size]? =some (.cells #[.int .u8 0,.string ⟨#[]⟩,.int .u64 0,.int .i64 0] 134 (0,0)):=by rw[HW1];exact blk_new _ _ _
 have HF1:=Zh hf1;clear hf1;have HB1:=Zh hb1;clear hb1;have H:=Zh h;clear h;go_enter Tryz.func123,Tryz.ntmps123;go_upto_region 1 with fail;rw[←HW1];clear HW1;go_upto_block 0 with fail
 go_cut [7] (fun v7 wx=>∃e:Nat,v7= .int .i64 e∧wx=W1∧runD digitM s (s.size+1) i=e∧i≤e∧e≤s.size∧(i<e→digitM (bt s i)=true))
 case first=>
  go_wp2_with fail
  go_loop [7] (fun v=>∃e:Nat,v= .int .i64 e∧i≤e∧e≤s.size∧∀j,i≤j→j<e→j<s.size∧digitM (bt s j)=true) (fun v=>s.size-(intOf v).toNat)
  case atStart=>exact⟨i,rfl,by omega,by omega,fun j h1 h2=>by omega⟩
  case round=>
   obtain⟨e,rfl,hie,hes,hall⟩:=hrel;have HA:=Zh hall;clear hall;by_cases hlt:e<s.size
   ·cases hd:digitM s[e] with
    |true=>
     have HD:=Zh hd;go_wp2_with fail;refine(digit_any _ _).mono ?_;rintro r w1 ⟨rfl,rfl⟩;go_wp2_with fail
     go_round
     case rel=>exact⟨e+1,by go_num,by omega,by omega,fun j h1 h2=>by
      rcases Nat.lt_or_eq_of_le (Nat.le_of_lt_succ h2) with h3|rfl
      ·exact HA.out j h1 h3
      ·exact⟨hlt,by rw[←bt_get hlt];exact HD.out⟩⟩
     case measure=>simp[intOf];omega
    |false=>
     have HE:=Zh (runD_eq digitM s (s.size+1) i e hie (by omega) HA.out (fun h9=>by rw[←bt_get h9.1,hd] at h9;cases h9.2));go_wp2_with fail;refine(digit_any _ _).mono ?_;rintro r w1 ⟨rfl,rfl⟩;go_wp2_with fail
     go_meet
     exact⟨e,rfl,rfl,HE.out,hie,hes,fun h9=>(HA.out i (Nat.le_refl _) h9).2⟩
   ·have HE:=Zh (runD_eq digitM s (s.size+1) i e hie (by omega) HA.out (fun h9=>hlt h9.1));go_wp2_with fail
    go_meet
    exact⟨e,rfl,rfl,HE.out,hie,hes,fun h9=>(HA.out i (Nat.le_refl _) h9).2⟩
 case rest=>
  obtain⟨e,rfl,rfl,hre,hie,hes,hdi⟩:=hcut;have HRE:=Zh hre;clear hre;by_cases hlt:i<e
  ·have h:=H.out;have HDI:=Zh (hdi hlt);clear hdi;simp only[oneS,HRE.out,if_pos hlt] at h;have h1:e=i+1:=by
    by_cases h9:e=i+1
    ·exact h9
    ·rw[if_neg h9] at h;cases h
   rw[if_pos h1] at h;simp only[Option.some.injEq,Prod.mk.injEq] at h;obtain⟨h2,h3⟩:=h;have HT:=Zh h2;clear h2;have HN:=Zh h3;clear h3;have HEX:=Zh (show s.extract i e=⟨#[bt s i]⟩ by rw[h1];exact ext_one hi);have HE1:=Zh h1;clear h1;clear H HRE;go_wp2_with fail;rw[HEX.out];refine(number1_any (bt s i) HDI.out wc).mono ?_;rintro r w2 ⟨rfl,rfl⟩;generalize UInt64.ofNat ((bt s i).toNat-48)=un at*;obtain⟨WX,hWX⟩:∃WX,WX=wc:=⟨_,rfl⟩;rw[←hWX];have HBX:=Zh (show WX.heap[w.heap.size]? =some (.cells #[.int .u8 0,.string ⟨#[]⟩,.int .u64 0,.int .i64 0] 134 (0,0)) by rw[hWX];exact HB1.out);have HFX:=Zh (show Fr Non w WX by rw[hWX];exact HF1.out);clear hWX;have f0:=(Zc HBX.out).1 0 _ rfl;have f1:=(Zc HBX.out).1 1 _ rfl;have f2:=(Zc HBX.out).1 2 _ rfl;have f3:=(Zc HBX.out).1 3 _ rfl;have ff:=(Zc HBX.out).2;go_wp2_with fail;clear f0 f1 f2 f3 ff;have HB4:=Zh (blk_put4 HBX.out (.int .u8 3) (.string ⟨#[]⟩) (vu64 un) (.int .i64 i));have HF4:=Zh (fr_put4 HFX.out (Nat.le_refl w.heap.size) (.int .u8 3) (.string ⟨#[]⟩) (vu64 un) (.int .i64 i));generalize (((WX.setCell ⟨w.heap.size,0,none⟩ (.int .u8 3)).setCell ⟨w.heap.size,1,none⟩ (.string ⟨#[]⟩)).setCell ⟨w.heap.size,2,none⟩ (vu64 un)).setCell ⟨w.heap.size,3,none⟩ (.int .i64 i)=w4 at*;have f0:=(Zc HB4.out).1 0 _ rfl;have f1:=(Zc HB4.out).1 1 _ rfl;have f2:=(Zc HB4.out).1 2 _ rfl;have f3:=(Zc HB4.out).1 3 _ rfl;rw[←HT.out,←HN.out];rw[show(e:Int)-(i:Int)=((1:Nat):Int) by have:=HE1.out;omega];refine bodyPost_ret (v:=.tuple #[(⟨3,⟨#[]⟩,un,i⟩:Tk).v,.int .i64 ((1:Nat):Int),.int .i64 0]) (by simp[results,Tryz.results123,go_sem,f0,f1,f2,f3,Tk.v]) rfl ⟨rfl,HF4.out⟩
  ·have h:=H.out;simp only[oneS,HRE.out,if_neg hlt] at h;have H2:=Zh h;clear h H hdi;have h9:i=e:=by omega
   subst h9;clear HRE hie;go_upto_block 2 with fail
   go_cut [7] (fun v7 wx=>∃e:Nat,v7= .int .i64 e∧wx=wc∧runD partM s (s.size+1) i=e∧i≤e∧e≤s.size)
   case first=>
    go_wp2_with fail
    go_loop [7] (fun v=>∃e:Nat,v= .int .i64 e∧i≤e∧e≤s.size∧∀j,i≤j→j<e→j<s.size∧partM (bt s j)=true) (fun v=>s.size-(intOf v).toNat)
    case atStart=>exact⟨i,rfl,by omega,by omega,fun j h1 h2=>by omega⟩
    case round=>
     obtain⟨e,rfl,hie,hes,hall⟩:=hrel;have HA:=Zh hall;clear hall;by_cases hlt:e<s.size
     ·have hstep:=fun(hp:partM s[e]=true)=>(fun j (h1:i≤j) (h2:j<e+1)=>by
       rcases Nat.lt_or_eq_of_le (Nat.le_of_lt_succ h2) with h3|rfl
       ·exact HA.out j h1 h3
       ·exact⟨hlt,by rw[←bt_get hlt];exact hp⟩:∀j,i≤j→j<e+1→j<s.size∧partM (bt s j)=true)
      have HSTEP:=Zh hstep;clear hstep;cases hl:letterM s[e] with
      |true=>
       have HP:=Zh (HSTEP.out (by simp[partM,hl]));go_wp2_with fail;refine(letter_any _ _).mono ?_;rintro r w1 ⟨rfl,rfl⟩;go_wp2_with fail
       go_round
       case rel=>exact⟨e+1,by go_num,by omega,by omega,HP.out⟩
       case measure=>simp[intOf];omega
      |false=>
       cases hd:digitM s[e] with
       |true=>
        have HP:=Zh (HSTEP.out (by simp[partM,hd]));go_wp2_with fail;refine(letter_any _ _).mono ?_;rintro r w1 ⟨rfl,rfl⟩;go_wp2_with fail;refine(digit_any _ _).mono ?_;rintro r w1 ⟨rfl,rfl⟩;go_wp2_with fail
        go_round
        case rel=>exact⟨e+1,by go_num,by omega,by omega,HP.out⟩
        case measure=>simp[intOf];omega
       |false=>
        have HE:=Zh (runD_eq partM s (s.size+1) i e hie (by omega) HA.out (fun h9=>by rw[←bt_get h9.1,partM,hl,hd] at h9;cases h9.2));go_wp2_with fail;refine(letter_any _ _).mono ?_;rintro r w1 ⟨rfl,rfl⟩;go_wp2_with fail;refine(digit_any _ _).mono ?_;rintro r w1 ⟨rfl,rfl⟩;go_wp2_with fail
        go_meet
        exact⟨e,rfl,rfl,HE.out,hie,hes⟩
     ·have HE:=Zh (runD_eq partM s (s.size+1) i e hie (by omega) HA.out (fun h9=>hlt h9.1));go_wp2_with fail
      go_meet
      exact⟨e,rfl,rfl,HE.out,hie,hes⟩
   case rest=>
    obtain⟨e,rfl,rfl,hre,hie,hes⟩:=hcut;have HRE:=Zh hre;clear hre;by_cases hlt2:i<e
    ·have h:=H2.out;simp only[HRE.out,if_pos hlt2] at h;have h16:e-i≤16:=by
      by_cases h9:e-i≤16
      ·exact h9
      ·rw[if_neg h9] at h;cases h
     rw[if_pos h16] at h;simp only[Option.some.injEq,Prod.mk.injEq] at h;obtain⟨h2,h3⟩:=h;have HT:=Zh h2;clear h2;have HN:=Zh h3;clear h3;have hsz:(s.extract i e).size=e-i:=by rw[ByteArray.size_extract];omega
     have HSZ:=Zh hsz;have hlen:((s.extract i e).size:Int)≤16:=by omega
     have hdl:decide ((16:Int)<((s.extract i e).size:Int))=false:=decide_eq_false (by omega);clear H2 HRE hsz;go_wp2_with fail;generalize s.extract i e=x at*;refine(word_any x wc).mono ?_;rintro r w2 ⟨rfl,hf2⟩;have HF2:=Zh hf2;clear hf2;obtain⟨WX,hWX⟩:∃WX,WX=w2:=⟨_,rfl⟩;rw[←hWX];have HBX:=Zh (show WX.heap[w.heap.size]? =some (.cells #[.int .u8 0,.string ⟨#[]⟩,.int .u64 0,.int .i64 0] 134 (0,0)) by rw[hWX];exact Zb HB1.out HF2.out (non _));have HFX:=Zh (show Fr Non w WX by rw[hWX];exact HF1.out.trans HF2.out);clear hWX;have f0:=(Zc HBX.out).1 0 _ rfl;have f1:=(Zc HBX.out).1 1 _ rfl;have f2:=(Zc HBX.out).1 2 _ rfl;have f3:=(Zc HBX.out).1 3 _ rfl;have ff:=(Zc HBX.out).2;cases hw:wordM x with
     |true=>
      rw[hw,if_pos rfl] at HT;have HW:=Zh hw;clear hw;go_wp2_with fail;clear f0 f1 f2 f3 ff;have HB4:=Zh (blk_put4 HBX.out (.int .u8 2) (.string x) (.int .u64 0) (.int .i64 i));have HF4:=Zh (fr_put4 HFX.out (Nat.le_refl w.heap.size) (.int .u8 2) (.string x) (.int .u64 0) (.int .i64 i));generalize (((WX.setCell ⟨w.heap.size,0,none⟩ (.int .u8 2)).setCell ⟨w.heap.size,1,none⟩ (.string x)).setCell ⟨w.heap.size,2,none⟩ (.int .u64 0)).setCell ⟨w.heap.size,3,none⟩ (.int .i64 i)=w4 at*;have f0:=(Zc HB4.out).1 0 _ rfl;have f1:=(Zc HB4.out).1 1 _ rfl;have f2:=(Zc HB4.out).1 2 _ rfl;have f3:=(Zc HB4.out).1 3 _ rfl;rw[←HT.out,←HN.out];rw[show(e:Int)-(i:Int)=((e-i:Nat):Int) by omega];refine bodyPost_ret (v:=.tuple #[(⟨2,x,0,i⟩:Tk).v,.int .i64 ((e-i:Nat):Int),.int .i64 0]) (by simp[results,Tryz.results123,go_sem,f0,f1,f2,f3,Tk.v]) rfl ⟨rfl,HF4.out⟩
     |false=>
      rw[hw,if_neg Bool.false_ne_true] at HT;have HW:=Zh hw;clear hw;go_wp2_with fail;clear f0 f1 f2 f3 ff;have HB4:=Zh (blk_put4 HBX.out (.int .u8 1) (.string x) (.int .u64 0) (.int .i64 i));have HF4:=Zh (fr_put4 HFX.out (Nat.le_refl w.heap.size) (.int .u8 1) (.string x) (.int .u64 0) (.int .i64 i));generalize (((WX.setCell ⟨w.heap.size,0,none⟩ (.int .u8 1)).setCell ⟨w.heap.size,1,none⟩ (.string x)).setCell ⟨w.heap.size,2,none⟩ (.int .u64 0)).setCell ⟨w.heap.size,3,none⟩ (.int .i64 i)=w4 at*;have f0:=(Zc HB4.out).1 0 _ rfl;have f1:=(Zc HB4.out).1 1 _ rfl;have f2:=(Zc HB4.out).1 2 _ rfl;have f3:=(Zc HB4.out).1 3 _ rfl;rw[←HT.out,←HN.out];rw[show(e:Int)-(i:Int)=((e-i:Nat):Int) by omega];refine bodyPost_ret (v:=.tuple #[(⟨1,x,0,i⟩:Tk).v,.int .i64 ((e-i:Nat):Int),.int .i64 0]) (by simp[results,Tryz.results123,go_sem,f0,f1,f2,f3,Tk.v]) rfl ⟨rfl,HF4.out⟩
    ·have h:=H2.out;simp only[HRE.out,if_neg hlt2] at h;have h9:i=e:=by omega
     subst h9;clear H2 HRE;cases hx:lexSign s i with
     |none=>rw[hx] at h;cases h
     |some x=>
      rw[hx] at h;simp only[Option.map_some,Option.some.injEq,Prod.mk.injEq] at h;obtain⟨h2,h3⟩:=h;have HT:=Zh h2;clear h2;have HN:=Zh h3;clear h3;have hpos:=lex_pos x (List.mem_of_find?_eq_some hx);have hem:emp x=false:=by rw[emp];exact beq_eq_false_iff_ne.2 (by omega)
      have hem':x.toList.isEmpty=false:=by rw[toemp];exact hem
      have HX:=Zh hx;clear hx hem;go_wp2_with fail;refine(lexsign_any s i wc (by omega) hs).mono ?_;rintro r w2 ⟨rfl,hf2⟩;rw[HX.out,Option.getD_some];have HF2:=Zh hf2;clear hf2;obtain⟨WX,hWX⟩:∃WX,WX=w2:=⟨_,rfl⟩;rw[←hWX];have HBX:=Zh (show WX.heap[w.heap.size]? =some (.cells #[.int .u8 0,.string ⟨#[]⟩,.int .u64 0,.int .i64 0] 134 (0,0)) by rw[hWX];exact Zb HB1.out HF2.out (non _));have HFX:=Zh (show Fr Non w WX by rw[hWX];exact HF1.out.trans HF2.out);clear hWX;have f0:=(Zc HBX.out).1 0 _ rfl;have f1:=(Zc HBX.out).1 1 _ rfl;have f2:=(Zc HBX.out).1 2 _ rfl;have f3:=(Zc HBX.out).1 3 _ rfl;have ff:=(Zc HBX.out).2;go_wp2_with fail;clear f0 f1 f2 f3 ff;have HB4:=Zh (blk_put4 HBX.out (.int .u8 4) (.string x) (.int .u64 0) (.int .i64 i));have HF4:=Zh (fr_put4 HFX.out (Nat.le_refl w.heap.size) (.int .u8 4) (.string x) (.int .u64 0) (.int .i64 i));generalize (((WX.setCell ⟨w.heap.size,0,none⟩ (.int .u8 4)).setCell ⟨w.heap.size,1,none⟩ (.string x)).setCell ⟨w.heap.size,2,none⟩ (.int .u64 0)).setCell ⟨w.heap.size,3,none⟩ (.int .i64 i)=w4 at*;have f0:=(Zc HB4.out).1 0 _ rfl;have f1:=(Zc HB4.out).1 1 _ rfl;have f2:=(Zc HB4.out).1 2 _ rfl;have f3:=(Zc HB4.out).1 3 _ rfl;rw[←HT.out,←HN.out];refine bodyPost_ret (v:=.tuple #[(⟨4,x,0,i⟩:Tk).v,.int .i64 x.size,.int .i64 0]) (by simp[results,Tryz.results123,go_sem,f0,f1,f2,f3,Tk.v]) rfl ⟨rfl,HF4.out⟩
def Tk.d (t:Tk):List D:=[.v (vu8 t.kind),.v (.string t.text),.v (vu64 t.num),.v (.int .i64 t.at_)]
def blankB (c:UInt8):Bool:=c.toNat==32||c.toNat==10
def cutS (s:ByteArray):Nat→Nat→Option (List Tk)
 |0,_=>none
 |f+1,i=>if s.size≤i then some [] else if blankB (bt s i) then cutS s f (i+1) else(oneS s i).bind fun r=>(cutS s f (i+r.2)).map fun ts=>r.1::ts
def endTk (s:ByteArray):Tk:=⟨5,⟨#[]⟩,0,s.size⟩
theorem runD_le (p:UInt8→Bool) (s:ByteArray):∀f a,a≤s.size→a≤runD p s f a∧runD p s f a≤s.size
 |0,a,h=>⟨Nat.le_refl _,h⟩
 |f+1,a,h=>by
  rw[runD];split
  ·rename_i h1;simp only[Bool.and_eq_true,decide_eq_true_eq] at h1;have:=runD_le p s f (a+1) h1.1;omega
  ·exact⟨Nat.le_refl _,h⟩
theorem oneS_le {s:ByteArray} {i:Nat} {t:Tk} {n:Nat} (hi:i<s.size) (h:oneS s i=some (t,n)):0<n∧i+n≤s.size:=by
 have h1:=runD_le digitM s (s.size+1) i (by omega);have h2:=runD_le partM s (s.size+1) i (by omega);simp only[oneS] at h;split at h
 ·split at h
  ·simp only[Option.some.injEq,Prod.mk.injEq] at h;omega
  ·cases h
 ·split at h
  ·split at h
   ·simp only[Option.some.injEq,Prod.mk.injEq] at h;omega
   ·cases h
  ·cases hx:lexSign s i with
   |none=>rw[hx] at h;cases h
   |some x=>
    rw[hx] at h;simp only[Option.map_some,Option.some.injEq,Prod.mk.injEq] at h;have h3:=lex_pos x (List.mem_of_find?_eq_some hx);have h4:=List.find?_some hx;simp only[Bool.and_eq_true,decide_eq_true_eq] at h4;omega
theorem chunk_tk {ok:Nat→Prop} {w:World} (t:Tk):Chunks ok w 4 [t.d] [vu8 t.kind,.string t.text,vu64 t.num,.int .i64 t.at_]:=
 ⟨_,[],rfl,rfl,rfl,⟨_,_,rfl,rfl,_,_,rfl,rfl,_,_,rfl,rfl,_,_,rfl,rfl,rfl⟩,rfl⟩
theorem one_tk (a:UInt8) (b:UInt64) (s:ByteArray) (i:Int):∀u∈[vu8 a,.string s,vu64 b,.int .i64 i],u.oneCell'=true:=by
 intro u hu;simp at hu;rcases hu with rfl|rfl|rfl|rfl<;>rfl
theorem cut_any (s:ByteArray) (L:List Tk) (w:World) (hs:s.size≤16384) (h:cutS s (s.size+1) 0=some L):
  Calls Tryz.prog 95 #[.string s] w fun e w'=>∃A c,e= .returned (.tuple #[.slice A (L.length+1) c,.agg #[.int .i64 0,.int .i64 0]])∧L.length+1≤c∧Fr Non w w'∧RdRows (New w.heap.size w') w' 4 A 0 ((L++[endTk s]).map Tk.d):=by
 obtain⟨W1,HW1⟩:∃W1,W1=w.alloc (.cells #[.int .i64 0,.int .i64 0] 67):=⟨_,rfl⟩;have hf1:Fr Non w W1:=by rw[HW1];exact(Zf w).alloc _
 have hb1:W1.heap[w.heap.size]? =some (.cells #[.int .i64 0,.int .i64 0] 67 (0,0)):=by rw[HW1];exact blk_new _ _ _
 have HF1:=Zh hf1;have HB1:=Zh hb1;clear hb1;have hz1:w.heap.size+1=W1.heap.size:=by rw[HW1];simp
 have H:=Zh h;clear h hf1;have hgt:decide ((16384:Int)<(s.size:Int))=false:=decide_eq_false (by omega);go_enter Tryz.func95,Tryz.ntmps95;go_upto_region 1 with fail;rw[←HW1];clear HW1;go_wp2_with fail
 go_loopw [4,5] (fun v a wr=>∃(i f:Nat) (l r:List Tk),a= .int .i64 i∧i≤s.size∧l++r=L∧l.length≤i∧cutS s f i=some r∧Fr Non W1 wr∧Own W1.heap.size 134 4 wr v (l.map Tk.d)) (fun _ a _=>s.size-(intOf a).toNat)
 case atStart=>exact⟨0,_,[],L,rfl,by omega,rfl,Nat.le_refl _,H.out,Zf _,Own.nil _ _ _ _⟩
 case round=>
  obtain⟨i,f,l,r,rfl,hi,hlr,hli,hcut,hfr,hown⟩:=hrel;have HLR:=Zh hlr;clear hlr;have HFR:=Zh hfr;clear hfr;obtain⟨A0,c0,rfl,hc0⟩:=hown.slice;have hn:(l.map Tk.d).length=l.length:=List.length_map _;rw[hn] at hc0 hown ⊢;clear hn;have HO:=Zh hown;clear hown;cases f with
  |zero=>cases hcut
  |succ f=>
   rw[cutS] at hcut;by_cases hlt:i<s.size
   ·rw[if_neg (by omega)] at hcut;cases hb:blankB (bt s i) with
    |true=>
     rw[hb,if_pos rfl] at hcut;have HC:=Zh hcut;clear hcut;rw[←bt_get hlt,blankB,Bool.or_eq_true] at hb;have hcase:(((s[i].toNat:Nat):Int)==32)=true∨((((s[i].toNat:Nat):Int)==32)=false∧(((s[i].toNat:Nat):Int)==10)=true):=by
      rcases hb with hb|hb
      ·left;rw[beq_iff_eq] at hb ⊢;omega
      ·right;rw[beq_iff_eq] at hb;exact⟨by rw[beq_eq_false_iff_ne];omega,by rw[beq_iff_eq];omega⟩
     clear hb;rcases hcase with q1|⟨q1,q2⟩;all_goals
      go_wp2_with fail;go_roundw
      case rel=>exact⟨i+1,f,l,r,by go_num,by omega,HLR.out,by omega,HC.out,HFR.out,HO.out⟩
      case measure=>simp[intOf];omega
    |false=>
     rw[hb,if_neg Bool.false_ne_true] at hcut;cases ho:oneS s i with
     |none=>rw[ho] at hcut;cases hcut
     |some p=>
      obtain⟨t,n⟩:=p;rw[ho,Option.bind_some] at hcut;cases hc:cutS s f (i+n) with
      |none=>simp only[hc] at hcut;cases hcut
      |some r2=>
       simp only[hc,Option.map_some,Option.some.injEq] at hcut;have HR:=Zh hcut;clear hcut;have HC:=Zh hc;clear hc;have hle:=oneS_le hlt ho;have HO1:=Zh ho;clear ho;rw[←bt_get hlt,blankB,Bool.or_eq_false_iff] at hb;have q1:(((s[i].toNat:Nat):Int)==32)=false:=by have:=hb.1;rw[beq_eq_false_iff_ne] at this ⊢;omega
       have q2:(((s[i].toNat:Nat):Int)==10)=false:=by have:=hb.2;rw[beq_eq_false_iff_ne] at this ⊢;omega
       clear hb;go_wp2_with fail;refine(one_any s i t n wr hlt (by omega) HO1.out).mono ?_;rintro e w2 ⟨rfl,hf2⟩;have HF2:=Zh (HFR.out.trans hf2);have HO2:=Zh (HO.out.fr hf2 (fun _ _=>non _));clear hf2;unfold Tk.v;clear q1 q2;have HL:=Zh (show(l.map Tk.d).length=l.length from List.length_map _);go_wp2_with (at_builtin;refine app_tk rfl _ _ rfl W1.heap.size (.slice A0 l.length c0) (l.map Tk.d) rfl ?o ⟨w2.heap.size+1,0,none⟩ 1 1 rfl [t.d] [vu8 t.kind,.string t.text,vu64 t.num,.int .i64 t.at_] (chunk_tk t) rfl ?nc (one_tk _ _ _ _) ?b1 ?b2 ?b3 ?k)
       case o=>have h9:=HO2.out.fr (((Zf w2).alloc (.cells #[vu8 t.kind,.string t.text,vu64 t.num,.int .i64 t.at_] 134)).alloc (.cells #[vu8 t.kind,.string t.text,vu64 t.num,.int .i64 t.at_] 134)) (fun _ _=>non _);exact h9
       case nc=>exact new_cells' (by simp)
       case b1=>rw[HL.out];unfold maxLen;omega
       case b2=>rw[HL.out];omega
       case b3=>have:=HF2.out.size;simp;omega
       case k=>
       intro v' w' hown' hfr';have HO':=Zh hown';clear hown';have HF':=Zh ((((HF2.out.alloc (.cells #[vu8 t.kind,.string t.text,vu64 t.num,.int .i64 t.at_] 134)).alloc (.cells #[vu8 t.kind,.string t.text,vu64 t.num,.int .i64 t.at_] 134))).then hfr' (fun k hk ht=>by have:=ht.1;omega));clear hfr';go_wp2_with fail;go_roundw
       case rel=>exact⟨i+n,f,l++[t],r2,by go_num,by omega,by rw[←HLR.out,←HR.out,List.append_assoc];rfl,by simp;omega,HC.out,HF'.out,by rw[List.map_append];exact HO'.out⟩
       case measure=>simp[intOf];omega
   ·have hie:i=s.size:=by omega
    rw[if_pos (by omega)] at hcut;simp only[Option.some.injEq] at hcut;subst hcut;have HIE:=Zh hie;clear hie;rw[List.append_nil] at HLR;have HL:=Zh (show(l.map Tk.d).length=l.length from List.length_map _);have hbf:=Zb HB1.out HFR.out (non _);have f0:=(Zc hbf).1 0 _ rfl;have f1:=(Zc hbf).1 1 _ rfl;have ff:=(Zc hbf).2;have HBF:=Zh hbf;clear hbf;go_wp2_with (at_builtin;refine app_tk rfl _ _ rfl W1.heap.size (.slice A0 l.length c0) (l.map Tk.d) rfl ?o ⟨wr.heap.size,0,none⟩ 1 1 rfl [(endTk s).d] [vu8 5,.string ⟨#[]⟩,vu64 0,.int .i64 s.size] (chunk_tk (endTk s)) rfl ?nc (one_tk _ _ _ _) ?b1 ?b2 ?b3 ?k)
    case o=>have h9:=HO.out.fr ((Zf wr).alloc (.cells #[vu8 5,.string ⟨#[]⟩,vu64 0,.int .i64 s.size] 134)) (fun _ _=>non _);exact h9
    case nc=>exact new_cells' rfl
    case b1=>rw[HL.out];unfold maxLen;omega
    case b2=>rw[HL.out];omega
    case b3=>have:=HFR.out.size;simp;omega
    case k=>
    intro v' w' hown' hfr';obtain⟨A1,c1,rfl,hc1⟩:=hown'.slice;have hln:(l.map Tk.d++[(endTk s).d]).length=l.length+1:=by simp
    rw[hln] at hc1 hown' ⊢;clear hln;have hbf2:=Zb (blk_old HBF.out) hfr' (fun ht=>by have:=ht.1;omega);have HFW:=Zh ((HFR.out.alloc (.cells #[vu8 5,.string ⟨#[]⟩,vu64 0,.int .i64 s.size] 134)).then hfr' (fun k hk ht=>by have:=ht.1;omega));clear hfr' f0 f1 ff;have f0:=(Zc hbf2).1 0 _ rfl;have f1:=(Zc hbf2).1 1 _ rfl;have ff:=(Zc hbf2).2;have HO':=Zh hown';clear hown';go_wp2_with fail;have HFZ:=Zh (show Fr (fun q=>q=w.heap.size) w' ((w'.setCell ⟨w.heap.size,0,none⟩ (.int .i64 0)).setCell ⟨w.heap.size,1,none⟩ (.int .i64 0)) from((Fr.refl (fun q=>q=w.heap.size) w').setCell ⟨w.heap.size,0,none⟩ _ (.inl rfl)).setCell ⟨w.heap.size,1,none⟩ _ (.inl rfl));have HBZ:=Zh (show((w'.setCell ⟨w.heap.size,0,none⟩ (.int .i64 0)).setCell ⟨w.heap.size,1,none⟩ (.int .i64 0)).heap[w.heap.size]? =some (.cells #[.int .i64 0,.int .i64 0] 67 (0,0)) from blk_set (blk_set hbf2 0 _) 1 _);generalize (w'.setCell ⟨w.heap.size,0,none⟩ (.int .i64 0)).setCell ⟨w.heap.size,1,none⟩ (.int .i64 0)=wz at*;clear f0 f1 ff;have f0:=(Zc HBZ.out).1 0 _ rfl;have f1:=(Zc HBZ.out).1 1 _ rfl;have hll:l.length=L.length:=by rw[HLR.out]
    have HRW:=Zh (HO'.out.fr HFZ.out (fun k hk e=>by have e:k=w.heap.size:=e;omega)).rows;rw[hll];refine bodyPost_ret (v:=.tuple #[.slice A1 (L.length+1) c1,.agg #[.int .i64 0,.int .i64 0]]) (by simp[results,Tryz.results95,go_sem,f0,f1]) rfl ⟨A1,c1,rfl,by omega,(HF1.out.trans HFW.out).then HFZ.out (fun k hk e=>by have e:k=w.heap.size:=e;omega),?_⟩;rw[←HLR.out,List.map_append];exact HRW.out.mono (fun _ _ _ _ h=>h) (fun k hk=>⟨by omega,hk.2⟩) _ _ _
theorem at_tk {ok:Nat→Prop} {w:World} {A:Option Addr} {l:List Tk} (h:RdRows ok w 4 A 0 (l.map Tk.d)) (k:Nat) (hk:k<l.length):
  ∃b o,A=some ⟨b,o,none⟩∧ok b∧w.cell? ⟨b,o+k*4,none⟩=some (vu8 l[k].kind)∧w.cell? ⟨b,o+k*4+1,none⟩=some (.string l[k].text)∧
   w.cell? ⟨b,o+k*4+2,none⟩=some (vu64 l[k].num)∧w.cell? ⟨b,o+k*4+3,none⟩=some (.int .i64 l[k].at_):=by
 obtain⟨b,o,e,hb,hl,hr⟩:=h.get0 k (by simpa using hk);simp only[List.getElem_map,Tk.d,RdAt,RdC] at hr;obtain⟨⟨_,h0,rfl⟩,⟨_,h1,rfl⟩,⟨_,h2,rfl⟩,⟨_,h3,rfl⟩,_⟩:=hr;exact⟨b,o,e,hb,h0,h1,h2,h3⟩
structure EyeAt (ok:Nat→Prop) (ts:List Tk) (A:Option Addr) (c be:Nat) (w:World) (i:Nat):Prop where
 blk:w.heap[be]? =some (.cells #[.slice A ts.length c,.int .i64 i,.int .i64 0,.int .i64 0] 130 (0,0))
 rows:RdRows ok w 4 A 0 (ts.map Tk.d)
 ne:∀q,ok q→q≠be
 len:ts.length≤20000
 le:i≤ts.length
theorem EyeAt.fr {ok:Nat→Prop} {ts:List Tk} {A:Option Addr} {c be:Nat} {w w':World} {i:Nat} {S:Nat→Prop} (h:EyeAt ok ts A c be w i) (hf:Fr S w w') (hb:¬S be) (ho:∀q,ok q→¬S q):EyeAt ok ts A c be w' i:=
 ⟨Zb h.blk hf hb,h.rows.fr hf ho fun _ h=>h,h.ne,h.len,h.le⟩
theorem EyeAt.stay {ok:Nat→Prop} {ts:List Tk} {A:Option Addr} {c be:Nat} {w w':World} {i:Nat} (h:EyeAt ok ts A c be w i) (hf:Fr Non w w'):EyeAt ok ts A c be w' i:=h.fr hf (non _) fun _ _=>non _
theorem EyeAt.next {ok:Nat→Prop} {ts:List Tk} {A:Option Addr} {c be:Nat} {w:World} {i:Nat} (h:EyeAt ok ts A c be w i) (hi:i<ts.length):EyeAt ok ts A c be (w.setCell ⟨be,1,none⟩ (.int .i64 ((i:Int)+1))) (i+1)∧Fr (fun k=>k=be) w (w.setCell ⟨be,1,none⟩ (.int .i64 ((i:Int)+1))):=by
 have hf:Fr (fun k=>k=be) w (w.setCell ⟨be,1,none⟩ (.int .i64 ((i:Int)+1))):=(Fr.refl _ _).setCell _ _ (.inl rfl);exact⟨⟨by have:=blk_set h.blk 1 (.int .i64 ((i:Int)+1));exact this,h.rows.fr hf (fun q hq e=>h.ne q hq e) fun _ h=>h,h.ne,h.len,hi⟩,hf⟩
def tkK (ts:List Tk) (k:UInt8) (s:ByteArray) (i:Nat):Bool:=(ts.getD i Tk.zero).kind.toNat==k.toNat&&sq (ts.getD i Tk.zero).text s
def eyeI (ts:List Tk) (k:UInt8) (s:ByteArray) (i:Nat):Nat:=if tkK ts k s i then i+1 else i
theorem eyeI_t {ts:List Tk} {k:UInt8} {s:ByteArray} {i:Nat} (h:tkK ts k s i=true):eyeI ts k s i=i+1:=if_pos h
theorem eyeI_f {ts:List Tk} {k:UInt8} {s:ByteArray} {i:Nat} (h:tkK ts k s i=false):eyeI ts k s i=i:=if_neg (by rw[h];exact Bool.false_ne_true)
theorem getD_at {ts:List Tk} {i:Nat} (h:i<ts.length):ts.getD i Tk.zero=ts[i]:=by rw[List.getD_eq_getElem?_getD,List.getElem?_eq_getElem h,Option.getD_some]
theorem look_any (ok:Nat→Prop) (ts:List Tk) (A:Option Addr) (c be:Nat) (w:World) (i:Nat) (h:EyeAt ok ts A c be w i) (hi:i<ts.length):
  Calls Tryz.prog 97 #[.pointer (some ⟨be,0,none⟩)] w fun e w'=>e= .returned (ts[i]).v∧Fr Non w w':=by
 have hlen:=h.len;obtain⟨W1,HW1⟩:∃W1,W1=w.alloc (.cells #[.int .u8 0,.string ⟨#[]⟩,.int .u64 0,.int .i64 0] 134):=⟨_,rfl⟩;have hf1:Fr Non w W1:=by rw[HW1];exact(Zf w).alloc _
 have hb1:W1.heap[w.heap.size]? =some (.cells #[.int .u8 0,.string ⟨#[]⟩,.int .u64 0,.int .i64 0] 134 (0,0)):=by rw[HW1];exact blk_new _ _ _
 have H1:=Zh (h.stay hf1);clear h;have b0:=(Zc H1.out.blk).1 0 _ rfl;have b1:=(Zc H1.out.blk).1 1 _ rfl;obtain⟨b,o,rfl,hb,x0,x1,x2,x3⟩:=at_tk H1.out.rows i hi;have HF1:=Zh hf1;clear hf1;have HB1:=Zh hb1;clear hb1;have y0:=ext_cell b0;have y1:=ext_cell b1;generalize ts[i]=t at*;go_enter Tryz.func97,Tryz.ntmps97;go_upto_region 1 with fail;rw[←HW1];clear HW1;have hd1:decide ((i:Int)<0)=false:=decide_eq_false (by omega);have hd2:decide ((ts.length:Int)≤(i:Int))=false:=decide_eq_false (by omega);refine wp_region_ext (by kernel_rfl) (by kernel_rfl) ?_
 repeat (go_big_quiet_step (fail))
 refine wpQuiet_nil ?_;intro w2 hf2;clear y0 y1;have b0:=hf2.cell' b0 (non _);have b1:=hf2.cell' b1 (non _);have x0:=hf2.cell' x0 (non _);have x1:=hf2.cell' x1 (non _);have x2:=hf2.cell' x2 (non _);have x3:=hf2.cell' x3 (non _);have hb2:=Zb HB1.out hf2 (non _);have f0:=(Zc hb2).1 0 _ rfl;have f1:=(Zc hb2).1 1 _ rfl;have f2:=(Zc hb2).1 2 _ rfl;have f3:=(Zc hb2).1 3 _ rfl;have ff:=(Zc hb2).2;have HB2:=Zh hb2;clear hb2;have HF2:=Zh (HF1.out.trans hf2);clear hf2;go_wp2_with fail
 go_region
 have HB3:=Zh (blk_put4 HB2.out (vu8 t.kind) (.string t.text) (vu64 t.num) (.int .i64 t.at_));have HF3:=Zh (fr_put4 HF2.out (Nat.le_refl w.heap.size) (vu8 t.kind) (.string t.text) (vu64 t.num) (.int .i64 t.at_));clear b0 b1 x0 x1 x2 x3 f0 f1 f2 f3 ff;generalize (((w2.setCell ⟨w.heap.size,0,none⟩ (vu8 t.kind)).setCell ⟨w.heap.size,1,none⟩ (.string t.text)).setCell ⟨w.heap.size,2,none⟩ (vu64 t.num)).setCell ⟨w.heap.size,3,none⟩ (.int .i64 t.at_)=w3 at*;have hd3:=Zb HB3.out (Zf w3).drew (non _);have f0:=(Zc hd3).1 0 _ rfl;have f1:=(Zc hd3).1 1 _ rfl;have f2:=(Zc hd3).1 2 _ rfl;have f3:=(Zc hd3).1 3 _ rfl;go_wp2_with fail;refine bodyPost_ret (v:=t.v) (by simp[results,Tryz.results97,go_sem,f0,f1,f2,f3,Tk.v]) rfl ⟨rfl,HF3.out.trans (Zf w3).drew⟩
theorem esign_any (ok:Nat→Prop) (ts:List Tk) (A:Option Addr) (c be:Nat) (w:World) (i:Nat) (s:ByteArray) (h:EyeAt ok ts A c be w i) (hi:i<ts.length):
  Calls Tryz.prog 127 #[.pointer (some ⟨be,0,none⟩),.string s] w fun e w'=>e= .returned (.bool (tkK ts 4 s i))∧Fr (fun k=>k=be) w w'∧EyeAt ok ts A c be w' (eyeI ts 4 s i):=by
 have hlen:=h.len;have hbe:=blk_lt h.blk;have HE:=Zh h;clear h;have HTK:=Zh (show tkK ts 4 s i=(ts[i].kind.toNat==4&&sq ts[i].text s) by rw[tkK,getD_at hi];rfl);go_enter Tryz.func127,Tryz.ntmps127;go_wp2_with fail;refine(look_any ok ts A c be w i HE.out hi).mono ?_;rintro e w2 ⟨rfl,hf2⟩;unfold Tk.v;generalize ts[i]=t at*;obtain⟨W3,HW3⟩:∃W3,W3=w2.alloc (.cells #[vu8 t.kind,.string t.text,vu64 t.num,.int .i64 t.at_] 134):=⟨_,rfl⟩;have hf3:Fr Non w2 W3:=by rw[HW3];exact(Zf _).alloc _
 have hb3:W3.heap[w2.heap.size]? =some (.cells #[vu8 t.kind,.string t.text,vu64 t.num,.int .i64 t.at_] 134 (0,0)):=by rw[HW3];exact blk_new _ _ _
 have HF3:=Zh (hf2.trans hf3);have H3:=Zh (HE.out.stay HF3.out);clear hf2 hf3;have b3:=(Zc H3.out.blk).1 3 _ rfl;have t0:=(Zc hb3).1 0 _ rfl;have t1:=(Zc hb3).1 1 _ rfl;clear hb3;go_upto_region 2 with fail;rw[←HW3];clear HW3;cases h4:((t.kind.toNat:Nat):Int)==4 with
 |false=>
  have h4':(((t.kind.toNat:Nat):Int)!=4)=true:=by rw[bne,h4];rfl
  have HN:=Zh (show tkK ts 4 s i=false by rw[HTK.out,Bool.and_eq_false_iff];left;rw[beq_eq_false_iff_ne] at h4 ⊢;omega);go_wp2_with fail;go_ret;rw[HN.out,eyeI_f HN.out];exact⟨rfl,HF3.out.non,H3.out⟩
 |true=>
  have h4':(((t.kind.toNat:Nat):Int)!=4)=false:=by rw[bne,h4];rfl
  cases hq:sq t.text s with
  |false=>
   have hq':(t.text.toList==s.toList)=false:=by rw[tosq];exact hq
   have hq2:(t.text.toList !=s.toList)=true:=by rw[bne,hq'];rfl
   have HN:=Zh (show tkK ts 4 s i=false by rw[HTK.out,hq,Bool.and_false]);clear hq;go_wp2_with fail;go_ret;rw[HN.out,eyeI_f HN.out];exact⟨rfl,HF3.out.non,H3.out⟩
  |true=>
   have hq':(t.text.toList==s.toList)=true:=by rw[tosq];exact hq
   have hq2:(t.text.toList !=s.toList)=false:=by rw[bne,hq'];rfl
   have HN:=Zh (show tkK ts 4 s i=true by rw[HTK.out,hq,Bool.and_true];rw[beq_iff_eq] at h4 ⊢;omega);clear hq;have b1:=(Zc H3.out.blk).1 1 _ rfl;have bf:=(Zc H3.out.blk).2;have hnx:=H3.out.next hi;have HNX:=Zh hnx;clear hnx;go_wp2_with fail;go_ret;rw[HN.out,eyeI_t HN.out];exact⟨rfl,HF3.out.non.trans HNX.out.2,HNX.out.1⟩
theorem need_any (ok:Nat→Prop) (ts:List Tk) (A:Option Addr) (c be:Nat) (w:World) (i:Nat) (s:ByteArray) (h:EyeAt ok ts A c be w i) (hi:i<ts.length) (hs:tkK ts 4 s i=true):
  Calls Tryz.prog 126 #[.pointer (some ⟨be,0,none⟩),.string s] w fun e w'=>e= .returned (.tuple #[])∧Fr (fun k=>k=be) w w'∧EyeAt ok ts A c be w' (i+1):=by
 have H:=Zh h;clear h;go_enter Tryz.func126,Tryz.ntmps126;go_wp2_with fail;refine(esign_any ok ts A c be w i s H.out hi).mono ?_;rintro e w2 ⟨rfl,hf2,h2⟩;rw[hs];rw[eyeI_t hs] at h2;have HF2:=Zh hf2;clear hf2;have H2:=Zh h2;clear h2 hs;go_wp2_with fail
 go_end0
 exact⟨rfl,HF2.out,H2.out⟩
def nmT (t:Tk):Bool:=t.kind.toNat==1&&namedM t.text
theorem ename_any (ok:Nat→Prop) (ts:List Tk) (A:Option Addr) (c be:Nat) (w:World) (i:Nat) (h:EyeAt ok ts A c be w i) (hi:i<ts.length) (hn:nmT ts[i]=true):
  Calls Tryz.prog 125 #[.pointer (some ⟨be,0,none⟩)] w fun e w'=>e= .returned (.string ts[i].text)∧Fr (fun k=>k=be) w w'∧EyeAt ok ts A c be w' (i+1):=by
 have hlen:=h.len;have hbe:=blk_lt h.blk;have HE:=Zh h;clear h;go_enter Tryz.func125,Tryz.ntmps125;go_wp2_with fail;refine(look_any ok ts A c be w i HE.out hi).mono ?_;rintro e w2 ⟨rfl,hf2⟩;unfold Tk.v;generalize ht:ts[i]=t at*;have HT:=Zh ht;clear ht;simp only[nmT,Bool.and_eq_true,beq_iff_eq] at hn;obtain⟨hk,hnm⟩:=hn;have h4':(((t.kind.toNat:Nat):Int)!=1)=false:=by rw[bne_eq_false_iff_eq];omega
 clear hk;obtain⟨W3,HW3⟩:∃W3,W3=w2.alloc (.cells #[vu8 t.kind,.string t.text,vu64 t.num,.int .i64 t.at_] 134):=⟨_,rfl⟩;have hf3:Fr Non w2 W3:=by rw[HW3];exact(Zf _).alloc _
 have hb3:W3.heap[w2.heap.size]? =some (.cells #[vu8 t.kind,.string t.text,vu64 t.num,.int .i64 t.at_] 134 (0,0)):=by rw[HW3];exact blk_new _ _ _
 have HF3:=Zh (hf2.trans hf3);have H3:=Zh (HE.out.stay HF3.out);have hbz:be≠w2.heap.size:=by have:=hf2.size;omega
 clear hf2 hf3;have b3:=(Zc H3.out.blk).1 3 _ rfl;have t0:=(Zc hb3).1 0 _ rfl;have t1:=(Zc hb3).1 1 _ rfl;have HB3:=Zh hb3;clear hb3;go_upto_region 2 with fail;rw[←HW3];clear HW3;have HNM:=Zh hnm;clear hnm;go_wp2_with fail;refine(named_any t.text W3).mono ?_;rintro e w4 ⟨rfl,hf4⟩;rw[HNM.out];have H4:=Zh (H3.out.stay hf4);have hb4:=Zb HB3.out hf4 (non _);have HF4:=Zh (HF3.out.trans hf4);clear hf4 b3 t0 t1;have b1:=(Zc H4.out.blk).1 1 _ rfl;have bf:=(Zc H4.out.blk).2;have hnx:=H4.out.next hi;have hb5:=Zb hb4 hnx.2 (fun e=>hbz e.symm);have HNX:=Zh hnx;clear hnx;have t1:=(Zc hb5).1 1 _ rfl;clear hb4 hb5;go_wp2_with fail;go_ret;exact⟨(show Ending.returned _=Ending.returned (.string t.text) from rfl).trans (by rw[HT.out]),HF4.out.non.trans HNX.out.2,HNX.out.1⟩
structure PsAt (ok:Nat→Prop) (ts:List Tk) (A:Option Addr) (c be bp:Nat) (w:World) (i n:Nat):Prop where
 eye:EyeAt ok ts A c be w i
 blk:w.heap[bp]? =some (.cells #[.pointer (some ⟨be,0,none⟩),.int .i64 n] 132 (0,0))
 ne:be≠bp
 okp:∀q,ok q→q≠bp
def PS (be bp:Nat) (k:Nat):Prop:=k=be∨k=bp
theorem PsAt.stay {ok:Nat→Prop} {ts:List Tk} {A:Option Addr} {c be bp:Nat} {w w':World} {i n:Nat} (h:PsAt ok ts A c be bp w i n) (hf:Fr Non w w'):PsAt ok ts A c be bp w' i n:=
 ⟨h.eye.stay hf,Zb h.blk hf (non _),h.ne,h.okp⟩
theorem PsAt.away {ok:Nat→Prop} {ts:List Tk} {A:Option Addr} {c be bp:Nat} {w w':World} {i n:Nat} {S:Nat→Prop} (h:PsAt ok ts A c be bp w i n) (hf:Fr S w w') (h1:¬S be) (h2:¬S bp) (h3:∀q,ok q→¬S q):PsAt ok ts A c be bp w' i n:=
 ⟨h.eye.fr hf h1 h3,Zb h.blk hf h2,h.ne,h.okp⟩
theorem PsAt.moved {ok:Nat→Prop} {ts:List Tk} {A:Option Addr} {c be bp:Nat} {w w':World} {i j n:Nat} (h:PsAt ok ts A c be bp w i n) (hf:Fr (fun k=>k=be) w w') (he:EyeAt ok ts A c be w' j):PsAt ok ts A c be bp w' j n:=
 ⟨he,Zb h.blk hf (fun e=>h.ne e.symm),h.ne,h.okp⟩
theorem eye_ps {be bp:Nat} {w w':World} (hf:Fr (fun k=>k=be) w w'):Fr (PS be bp) w w':=hf.mono fun _ _ h=>.inl h
theorem pfine_any (ok:Nat→Prop) (ts:List Tk) (A:Option Addr) (c be bp:Nat) (w:World) (i n:Nat) (h:PsAt ok ts A c be bp w i n):
  Calls Tryz.prog 96 #[.pointer (some ⟨bp,0,none⟩)] w fun e w'=>e= .returned (.bool true)∧w=w':=by
 have p0:=(Zc h.blk).1 0 _ rfl;have b3:=(Zc h.eye.blk).1 3 _ rfl;have H:=Zh h;clear h;go_enter Tryz.func96,Tryz.ntmps96;go_wp2_with fail;go_ret;exact⟨rfl,rfl⟩
theorem eword_any (ok:Nat→Prop) (ts:List Tk) (A:Option Addr) (c be bp:Nat) (w:World) (i n:Nat) (s:ByteArray) (h:PsAt ok ts A c be bp w i n) (hi:i<ts.length):
  Calls Tryz.prog 99 #[.pointer (some ⟨bp,0,none⟩),.string s] w fun e w'=>e= .returned (.bool (tkK ts 2 s i))∧Fr (PS be bp) w w'∧PsAt ok ts A c be bp w' (eyeI ts 2 s i) n:=by
 have hlen:=h.eye.len;have hbe:=blk_lt h.eye.blk;have p0:=(Zc h.blk).1 0 _ rfl;have HE:=Zh h;clear h;have HTK:=Zh (show tkK ts 2 s i=(ts[i].kind.toNat==2&&sq ts[i].text s) by rw[tkK,getD_at hi];rfl);go_enter Tryz.func99,Tryz.ntmps99;go_wp2_with fail;refine(look_any ok ts A c be w i HE.out.eye hi).mono ?_;rintro e w2 ⟨rfl,hf2⟩;unfold Tk.v;generalize ts[i]=t at*;obtain⟨W3,HW3⟩:∃W3,W3=w2.alloc (.cells #[vu8 t.kind,.string t.text,vu64 t.num,.int .i64 t.at_] 134):=⟨_,rfl⟩;have hf3:Fr Non w2 W3:=by rw[HW3];exact(Zf _).alloc _
 have hb3:W3.heap[w2.heap.size]? =some (.cells #[vu8 t.kind,.string t.text,vu64 t.num,.int .i64 t.at_] 134 (0,0)):=by rw[HW3];exact blk_new _ _ _
 have HF3:=Zh (hf2.trans hf3);have H3:=Zh (HE.out.stay HF3.out);clear hf2 hf3 p0;have p0:=(Zc H3.out.blk).1 0 _ rfl;have t0:=(Zc hb3).1 0 _ rfl;have t1:=(Zc hb3).1 1 _ rfl;clear hb3;go_upto_region 2 with fail;rw[←HW3];clear HW3;cases h4:((t.kind.toNat:Nat):Int)==2 with
 |false=>
  have h4':(((t.kind.toNat:Nat):Int)!=2)=true:=by rw[bne,h4];rfl
  have HN:=Zh (show tkK ts 2 s i=false by rw[HTK.out,Bool.and_eq_false_iff];left;rw[beq_eq_false_iff_ne] at h4 ⊢;omega);go_wp2_with fail;refine(pfine_any ok ts A c be bp W3 i n H3.out).mono ?_;rintro e w4 ⟨rfl,rfl⟩;go_wp2_with fail;go_ret;rw[HN.out,eyeI_f HN.out];exact⟨rfl,HF3.out.non,H3.out⟩
 |true=>
  have h4':(((t.kind.toNat:Nat):Int)!=2)=false:=by rw[bne,h4];rfl
  cases hq:sq t.text s with
  |false=>
   have hq':(t.text.toList==s.toList)=false:=by rw[tosq];exact hq
   have hq2:(t.text.toList !=s.toList)=true:=by rw[bne,hq'];rfl
   have HN:=Zh (show tkK ts 2 s i=false by rw[HTK.out,hq,Bool.and_false]);clear hq;go_wp2_with fail;refine(pfine_any ok ts A c be bp W3 i n H3.out).mono ?_;rintro e w4 ⟨rfl,rfl⟩;go_wp2_with fail;go_ret;rw[HN.out,eyeI_f HN.out];exact⟨rfl,HF3.out.non,H3.out⟩
  |true=>
   have hq':(t.text.toList==s.toList)=true:=by rw[tosq];exact hq
   have hq2:(t.text.toList !=s.toList)=false:=by rw[bne,hq'];rfl
   have HN:=Zh (show tkK ts 2 s i=true by rw[HTK.out,hq,Bool.and_true];rw[beq_iff_eq] at h4 ⊢;omega);clear hq;have b1:=(Zc H3.out.eye.blk).1 1 _ rfl;have bf:=(Zc H3.out.eye.blk).2;have hnx:=H3.out.eye.next hi;have HNX:=Zh hnx;clear hnx;go_wp2_with fail;refine(pfine_any ok ts A c be bp W3 i n H3.out).mono ?_;rintro e w4 ⟨rfl,rfl⟩;go_wp2_with fail;go_ret;rw[HN.out,eyeI_t HN.out];exact⟨rfl,HF3.out.non.trans (eye_ps HNX.out.2),H3.out.moved HNX.out.2 HNX.out.1⟩
theorem blk_put5 {w:World} {g:Nat} {a0 a1 a2 a3 a4:Value} {T:TypeId} (h:w.heap[g]? =some (.cells #[a0,a1,a2,a3,a4] T (0,0))) (v0 v1 v2 v3 v4:Value):
  (((((w.setCell ⟨g,0,none⟩ v0).setCell ⟨g,1,none⟩ v1).setCell ⟨g,2,none⟩ v2).setCell ⟨g,3,none⟩ v3).setCell ⟨g,4,none⟩ v4).heap[g]? =some (.cells #[v0,v1,v2,v3,v4] T (0,0)):=by
 have h0:(w.setCell ⟨g,0,none⟩ v0).heap[g]? =some (.cells #[v0,a1,a2,a3,a4] T (0,0)):=blk_set h 0 v0;have h1:((w.setCell ⟨g,0,none⟩ v0).setCell ⟨g,1,none⟩ v1).heap[g]? =some (.cells #[v0,v1,a2,a3,a4] T (0,0)):=blk_set h0 1 v1;have h2:(((w.setCell ⟨g,0,none⟩ v0).setCell ⟨g,1,none⟩ v1).setCell ⟨g,2,none⟩ v2).heap[g]? =some (.cells #[v0,v1,v2,a3,a4] T (0,0)):=blk_set h1 2 v2;have h3:((((w.setCell ⟨g,0,none⟩ v0).setCell ⟨g,1,none⟩ v1).setCell ⟨g,2,none⟩ v2).setCell ⟨g,3,none⟩ v3).heap[g]? =some (.cells #[v0,v1,v2,v3,a4] T (0,0)):=blk_set h2 3 v3;exact blk_set h3 4 v4
theorem fr_put5 {g:Nat} {w:World} (v0 v1 v2 v3 v4:Value):Fr (fun k=>k=g) w (((((w.setCell ⟨g,0,none⟩ v0).setCell ⟨g,1,none⟩ v1).setCell ⟨g,2,none⟩ v2).setCell ⟨g,3,none⟩ v3).setCell ⟨g,4,none⟩ v4):=
 (((((Fr.refl (fun k=>k=g) w).setCell ⟨g,0,none⟩ _ (.inl rfl)).setCell ⟨g,1,none⟩ _ (.inl rfl)).setCell ⟨g,2,none⟩ _ (.inl rfl)).setCell ⟨g,3,none⟩ _ (.inl rfl)).setCell ⟨g,4,none⟩ _ (.inl rfl)
theorem ps_new {base:Nat} {be bp:Nat} {w w' w0:World} (h:Fr (PS be bp) w0 w) (hf:Fr (fun k=>k=base) w w') (hb:w0.heap.size≤base):Fr (PS be bp) w0 w':=h.then hf fun k hk e=>by have e:k=base:=e;omega
def gHash:ByteArray:=⟨#[35]⟩
def exprQ (ts:List Tk):Nat→Nat→Nat→Option (Ex×Nat)
 |0,_,_=>none
 |f+1,deep,i=>
  if i<ts.length∧deep≤40 then
   (if(ts.getD i Tk.zero).kind.toNat=3 then some (.mk 1 (ts.getD i Tk.zero).num ⟨#[]⟩ 0 [],i+1)
    else if tkK ts 4 gHash i=true then(if i+1<ts.length∧nmT (ts.getD (i+1) Tk.zero)=true then some (.mk 4 0 (ts.getD (i+1) Tk.zero).text 0 [],i+1+1) else none)
    else if nmT (ts.getD i Tk.zero)=true∧i+1<ts.length then
     (if tkK ts 4 gBox (i+1)=true then(exprQ ts f (deep+1) (i+1+1)).bind fun r=>if r.2<ts.length∧tkK ts 4 gUnbox r.2=true then some (.mk 5 0 (ts.getD i Tk.zero).text 0 [r.1],r.2+1) else none
      else some (.mk 2 0 (ts.getD i Tk.zero).text 0 [],i+1))
    else none)
  else none
def ExQ (ok:Nat→Prop) (ts:List Tk) (A:Option Addr) (c be f:Nat):Prop:=∀(w:World) (i deep:Nat) (d:Int) (x:Ex) (j:Nat),EyeAt ok ts A c be w i→exprQ ts f deep i=some (x,j)→d=deep→(∀q,ok q→q<w.heap.size)→
 Calls Tryz.prog 143 #[.pointer (some ⟨be,0,none⟩),.int .i64 d] w fun e w'=>∃A' c',e= .returned (exV x.kind x.num x.name x.op A' x.kids.length c')∧x.kids.length≤c'∧x.kids.length*64≤reach∧Fr (fun k=>k=be) w w'∧EyeAt ok ts A c be w' j∧RdRows (New w.heap.size w') w' 5 A' 0 (Ex.ds x.kids)
theorem rowsK {lo lo0:Nat} {wa wb:World} {sz:Nat} {A:Option Addr} {l:List (List D)} {S:Nat→Prop} (h:RdRows (New lo wa) wa sz A 0 l) (hf:Fr S wa wb) (hs:∀k,S k→k<lo) (hl:lo0≤lo):RdRows (New lo0 wb) wb sz A 0 l:=
 h.fr hf (fun q hq hS=>by have:=hs q hS;have:=hq.1;omega) fun k hk=>⟨Nat.le_trans hl hk.1,Nat.lt_of_lt_of_le hk.2 hf.size⟩
theorem rd_exk {ok:Nat→Prop} {w:World} {g:Nat} {x:Ex} {A':Option Addr} {c':Nat} {Z:Array Value} {T:TypeId} (h:w.heap[g]? =some (.cells (#[vu8 x.kind,vu64 x.num,.string x.name,vu8 x.op,.slice A' x.kids.length c']++Z) T (0,0)))
  (h1:x.kids.length≤c') (h2:x.kids.length*64≤reach) (hk:RdRows ok w 5 A' 0 (Ex.ds x.kids)) (hg:ok g):RdRows ok w 5 (some ⟨g,0,none⟩) 0 (Ex.ds [x]):=by
 obtain⟨k,n,nm,o,l⟩:=x;have hc:=(Zc h).1;have hq:∀i v,i<5→(#[vu8 k,vu64 n,.string nm,vu8 o,.slice A' l.length c']:Array Value)[i]? =some v→w.cell? ⟨g,i,none⟩=some v:=fun i v hi hv=>hc i v (by rw[Array.getElem?_append_left (by simpa using hi)];exact hv);exact⟨⟨g,0,rfl,hg,rfl,⟨_,hq 0 _ (by omega) rfl,rfl⟩,⟨_,hq 1 _ (by omega) rfl,rfl⟩,⟨_,hq 2 _ (by omega) rfl,rfl⟩,⟨_,hq 3 _ (by omega) rfl,rfl⟩,⟨_,hq 4 _ (by omega) rfl,A',c',by simp only[Ex.ds_eq,List.length_map];rfl,by simp only[Ex.ds_eq,List.length_map];exact h1,by simp only[Ex.ds_eq,List.length_map];exact h2,hk⟩,trivial⟩,trivial⟩
theorem rd_exk0 {ok:Nat→Prop} {w:World} {g:Nat} {x:Ex} {A':Option Addr} {c':Nat} {T:TypeId} (h:w.heap[g]? =some (.cells #[vu8 x.kind,vu64 x.num,.string x.name,vu8 x.op,.slice A' x.kids.length c'] T (0,0)))
  (h1:x.kids.length≤c') (h2:x.kids.length*64≤reach) (hk:RdRows ok w 5 A' 0 (Ex.ds x.kids)) (hg:ok g):RdRows ok w 5 (some ⟨g,0,none⟩) 0 (Ex.ds [x]):=
 rd_exk (Z:=#[]) (by simpa using h) h1 h2 hk hg
theorem qexpr_of (ok:Nat→Prop) (ts:List Tk) (A:Option Addr) (c be f:Nat) (IH:ExQ ok ts A c be f):ExQ ok ts A c be (f+1):=by
 intro w i deep dd x j h hx hdd hok;subst hdd;have hlen:=h.len;have hbe:=blk_lt h.blk;obtain⟨W1,HW1⟩:∃W1,W1=w.alloc (.cells #[.int .u8 0,.int .u64 0,.string ⟨#[]⟩,.int .u8 0,.slice none 0 0] 44):=⟨_,rfl⟩;have hf1:Fr Non w W1:=by rw[HW1];exact(Zf w).alloc _
 have hb1:W1.heap[w.heap.size]? =some (.cells #[.int .u8 0,.int .u64 0,.string ⟨#[]⟩,.int .u8 0,.slice none 0 0] 44 (0,0)):=by rw[HW1];exact blk_new _ _ _
 have H1:=Zh (h.stay hf1);clear h;have HF1:=Zh hf1;clear hf1;have HB1:=Zh hb1;clear hb1;have HOK:=Zh hok;clear hok;rw[exprQ] at hx;split at hx
 case isFalse=>cases hx
 case isTrue hid0=>
 obtain⟨hi,hd⟩:=hid0;rw[getD_at hi] at hx;have b3:=(Zc H1.out.blk).1 3 _ rfl;have hdd:decide ((40:Int)<(deep:Int))=false:=decide_eq_false (by omega);have HX:=Zh hx;clear hx;go_enter Tryz.func143,Tryz.ntmps143;go_upto_region 1 with fail;rw[←HW1];clear HW1;go_wp2_with fail;refine(look_any ok ts A c be W1 i H1.out hi).mono ?_;rintro e w2 ⟨rfl,hf2⟩;unfold Tk.v;have HTK4:=Zh (fun s=>(show tkK ts 4 s i=(ts[i].kind.toNat==4&&sq ts[i].text s) by rw[tkK,getD_at hi];rfl));generalize ht:ts[i]=t at*;have HT:=Zh ht;clear ht;obtain⟨W3,HW3⟩:∃W3,W3=w2.alloc (.cells #[vu8 t.kind,.string t.text,vu64 t.num,.int .i64 t.at_] 134):=⟨_,rfl⟩;have hf3:Fr Non w2 W3:=by rw[HW3];exact(Zf _).alloc _
 have hb3:W3.heap[w2.heap.size]? =some (.cells #[vu8 t.kind,.string t.text,vu64 t.num,.int .i64 t.at_] 134 (0,0)):=by rw[HW3];exact blk_new _ _ _
 have hz2:w.heap.size<w2.heap.size:=by have:=blk_lt (Zb HB1.out hf2 (non _));exact this
 have HF3:=Zh (HF1.out.trans (hf2.trans hf3));have H3:=Zh ((H1.out.stay hf2).stay hf3);have HX3:=Zh (Zb (Zb HB1.out hf2 (non _)) hf3 (non _));clear hf2 hf3 b3;have t0:=(Zc hb3).1 0 _ rfl;have HB3:=Zh hb3;clear hb3;go_upto_region 6 with fail;rw[←HW3];clear HW3;cases h3:((t.kind.toNat:Nat):Int)==3 with
 |true=>
  have hx:=HX.out;rw[if_pos (by rw[beq_iff_eq] at h3;omega)] at hx;simp only[Option.some.injEq,Prod.mk.injEq] at hx;obtain⟨rfl,rfl⟩:=hx;clear HX;have b1:=(Zc H3.out.blk).1 1 _ rfl;have bf:=(Zc H3.out.blk).2;have hnx:=H3.out.next hi;have HB4:=Zh (Zb HB3.out hnx.2 (by omega));have HX4:=Zh (Zb HX3.out hnx.2 (by omega));have HNX:=Zh hnx;clear hnx;go_upto_region 8 with fail;generalize W3.setCell ⟨be,1,none⟩ (.int .i64 ((i:Int)+1))=W4 at*;clear b1 bf t0;have t2:=(Zc HB4.out).1 2 _ rfl;have H4:=Zh HNX.out.1;have HF4:=Zh (HF3.out.non.trans HNX.out.2);have f0:=(Zc HX4.out).1 0 _ rfl;have f1:=(Zc HX4.out).1 1 _ rfl;have f2:=(Zc HX4.out).1 2 _ rfl;have f3:=(Zc HX4.out).1 3 _ rfl;have f4:=(Zc HX4.out).1 4 _ rfl;have ff:=(Zc HX4.out).2;go_wp2_with fail;have HZ:=Zh (blk_put5 HX4.out (.int .u8 1) (vu64 t.num) (.string ⟨#[]⟩) (.int .u8 0) (.slice none 0 0));have HFZ:=Zh (fr_put5 (g:=w.heap.size) (w:=W4) (.int .u8 1) (vu64 t.num) (.string ⟨#[]⟩) (.int .u8 0) (.slice none 0 0));generalize (((((W4.setCell ⟨w.heap.size,0,none⟩ (.int .u8 1)).setCell ⟨w.heap.size,1,none⟩ (vu64 t.num)).setCell ⟨w.heap.size,2,none⟩ (.string ⟨#[]⟩)).setCell ⟨w.heap.size,3,none⟩ (.int .u8 0)).setCell ⟨w.heap.size,4,none⟩ (.slice none 0 0))=wz at*;clear f0 f1 f2 f3 f4 ff;have f0:=(Zc HZ.out).1 0 _ rfl;have f1:=(Zc HZ.out).1 1 _ rfl;have f2:=(Zc HZ.out).1 2 _ rfl;have f3:=(Zc HZ.out).1 3 _ rfl;have f4:=(Zc HZ.out).1 4 _ rfl;refine bodyPost_ret (v:=exV 1 t.num ⟨#[]⟩ 0 none 0 0) (by simp[results,Tryz.results143,go_sem,f0,f1,f2,f3,f4,exV]) rfl ⟨none,0,rfl,Nat.zero_le _,(by decide:0*64≤reach),HF4.out.then HFZ.out (fun k hk e=>by have e:k=w.heap.size:=e;omega),H4.out.fr HFZ.out (by omega) (fun q hq e=>by have e:q=w.heap.size:=e;have:=HOK.out q hq;omega),trivial⟩
 |false=>
  have hx:=HX.out;rw[if_neg (by rw[beq_eq_false_iff_ne] at h3;omega)] at hx;clear HX;cases hsh:tkK ts 4 gHash i with
  |true=>
   rw[hsh,if_pos rfl] at hx;split at hx
   case isFalse=>cases hx
   case isTrue hc=>
   obtain⟨hi1,hnm⟩:=hc;rw[getD_at hi1] at hx hnm;simp only[Option.some.injEq,Prod.mk.injEq] at hx;obtain⟨rfl,rfl⟩:=hx;have HNM:=Zh hnm;clear hnm;have HSH:=Zh hsh;clear hsh;go_wp2_with fail;refine(esign_any ok ts A c be W3 i ⟨#[35]⟩ H3.out hi).mono ?_;rintro e w5 ⟨rfl,hf5,h5⟩;rw[show tkK ts 4 ⟨#[35]⟩ i=true from HSH.out];rw[eyeI_t (show tkK ts 4 ⟨#[35]⟩ i=true from HSH.out)] at h5;have H5:=Zh h5;clear h5;have HX5:=Zh (Zb HX3.out hf5 (by omega));have HF5:=Zh (HF3.out.non.trans hf5);clear hf5 t0;go_wp2_with fail;refine(ename_any ok ts A c be w5 (i+1) H5.out hi1 HNM.out).mono ?_;rintro e w8 ⟨rfl,hf7,h7⟩;generalize hnq:ts[i+1].text=nm at*;have HNQ:=Zh hnq;clear hnq;have H8:=Zh h7;clear h7;have HX8:=Zh (Zb HX5.out hf7 (by omega));have HF8:=Zh (HF5.out.trans hf7);clear hf7;have f0:=(Zc HX8.out).1 0 _ rfl;have f1:=(Zc HX8.out).1 1 _ rfl;have f2:=(Zc HX8.out).1 2 _ rfl;have f3:=(Zc HX8.out).1 3 _ rfl;have f4:=(Zc HX8.out).1 4 _ rfl;have ff:=(Zc HX8.out).2;go_wp2_with fail;have HZ:=Zh (blk_put5 HX8.out (.int .u8 4) (.int .u64 0) (.string nm) (.int .u8 0) (.slice none 0 0));have HFZ:=Zh (fr_put5 (g:=w.heap.size) (w:=w8) (.int .u8 4) (.int .u64 0) (.string nm) (.int .u8 0) (.slice none 0 0));generalize (((((w8.setCell ⟨w.heap.size,0,none⟩ (.int .u8 4)).setCell ⟨w.heap.size,1,none⟩ (.int .u64 0)).setCell ⟨w.heap.size,2,none⟩ (.string nm)).setCell ⟨w.heap.size,3,none⟩ (.int .u8 0)).setCell ⟨w.heap.size,4,none⟩ (.slice none 0 0))=wz at*;clear f0 f1 f2 f3 f4 ff;have f0:=(Zc HZ.out).1 0 _ rfl;have f1:=(Zc HZ.out).1 1 _ rfl;have f2:=(Zc HZ.out).1 2 _ rfl;have f3:=(Zc HZ.out).1 3 _ rfl;have f4:=(Zc HZ.out).1 4 _ rfl;rw[HNQ.out];refine bodyPost_ret (v:=exV 4 0 nm 0 none 0 0) (by simp[results,Tryz.results143,go_sem,f0,f1,f2,f3,f4,exV]) rfl ⟨none,0,rfl,Nat.zero_le _,(by decide:0*64≤reach),HF8.out.then HFZ.out (fun k hk e=>by have e:k=w.heap.size:=e;omega),H8.out.fr HFZ.out (by omega) (fun q hq e=>by have e:q=w.heap.size:=e;have:=HOK.out q hq;omega),trivial⟩
  |false=>
   rw[hsh,if_neg (by decide)] at hx;split at hx
   case isFalse=>cases hx
   case isTrue hc=>
   obtain⟨hnm,hi1⟩:=hc;have hk1:(t.kind.toNat==4)=false:=by
    simp only[nmT,Bool.and_eq_true,beq_iff_eq] at hnm;rw[hnm.1];rfl
   have HS:=Zh (show∀s,tkK ts 4 s i=false from fun s=>by rw[HTK4.out s,hk1];rfl);have HNM:=Zh hnm;have HX:=Zh hx;clear hk1 hnm hsh hx;go_wp2_with fail;refine(esign_any ok ts A c be W3 i ⟨#[35]⟩ H3.out hi).mono ?_;rintro e w5 ⟨rfl,hf5,h5⟩;rw[HS.out];rw[eyeI_f (HS.out _)] at h5;have H5:=Zh h5;clear h5;have HX5:=Zh (Zb HX3.out hf5 (by omega));have HF5:=Zh (HF3.out.non.trans hf5);clear hf5 t0;go_wp2_with fail;refine(esign_any ok ts A c be w5 i ⟨#[40]⟩ H5.out hi).mono ?_;rintro e w6 ⟨rfl,hf6,h6⟩;rw[HS.out];rw[eyeI_f (HS.out _)] at h6;have H6:=Zh h6;clear h6;have HX6:=Zh (Zb HX5.out hf6 (by omega));have HF6:=Zh (HF5.out.trans hf6);clear hf6;go_wp2_with fail;refine(ename_any ok ts A c be w6 i H6.out hi (by rw[HT.out];exact HNM.out)).mono ?_;rintro e w7 ⟨rfl,hf7,h7⟩;rw[HT.out];have H7:=Zh h7;clear h7;have HX7:=Zh (Zb HX6.out hf7 (by omega));have HF7:=Zh (HF6.out.trans hf7);clear hf7;go_wp2_with fail;refine(esign_any ok ts A c be w7 (i+1) ⟨#[91]⟩ H7.out hi1).mono ?_;rintro e w8 ⟨rfl,hf8,h8⟩;have HX8:=Zh (Zb HX7.out hf8 (by omega));have HF8:=Zh (HF7.out.trans hf8);clear hf8;cases hbx:tkK ts 4 gBox (i+1) with
   |false=>
    have hx:=HX.out;rw[hbx,if_neg (by decide)] at hx;simp only[Option.some.injEq,Prod.mk.injEq] at hx;obtain⟨rfl,rfl⟩:=hx;clear HX;rw[show tkK ts 4 ⟨#[91]⟩ (i+1)=false from hbx];rw[eyeI_f (show tkK ts 4 ⟨#[91]⟩ (i+1)=false from hbx)] at h8;have H8:=Zh h8;clear h8 hbx;have f0:=(Zc HX8.out).1 0 _ rfl;have f1:=(Zc HX8.out).1 1 _ rfl;have f2:=(Zc HX8.out).1 2 _ rfl;have f3:=(Zc HX8.out).1 3 _ rfl;have f4:=(Zc HX8.out).1 4 _ rfl;have ff:=(Zc HX8.out).2;go_wp2_with fail;have HZ:=Zh (blk_put5 HX8.out (.int .u8 2) (.int .u64 0) (.string t.text) (.int .u8 0) (.slice none 0 0));have HFZ:=Zh (fr_put5 (g:=w.heap.size) (w:=w8) (.int .u8 2) (.int .u64 0) (.string t.text) (.int .u8 0) (.slice none 0 0));generalize (((((w8.setCell ⟨w.heap.size,0,none⟩ (.int .u8 2)).setCell ⟨w.heap.size,1,none⟩ (.int .u64 0)).setCell ⟨w.heap.size,2,none⟩ (.string t.text)).setCell ⟨w.heap.size,3,none⟩ (.int .u8 0)).setCell ⟨w.heap.size,4,none⟩ (.slice none 0 0))=wz at*;clear f0 f1 f2 f3 f4 ff;have f0:=(Zc HZ.out).1 0 _ rfl;have f1:=(Zc HZ.out).1 1 _ rfl;have f2:=(Zc HZ.out).1 2 _ rfl;have f3:=(Zc HZ.out).1 3 _ rfl;have f4:=(Zc HZ.out).1 4 _ rfl;refine bodyPost_ret (v:=exV 2 0 t.text 0 none 0 0) (by simp[results,Tryz.results143,go_sem,f0,f1,f2,f3,f4,exV]) rfl ⟨none,0,rfl,Nat.zero_le _,(by decide:0*64≤reach),HF8.out.then HFZ.out (fun k hk e=>by have e:k=w.heap.size:=e;omega),H8.out.fr HFZ.out (by omega) (fun q hq e=>by have e:q=w.heap.size:=e;have:=HOK.out q hq;omega),trivial⟩
   |true=>
    have hx:=HX.out;rw[hbx,if_pos rfl] at hx;clear HX;cases hr:exprQ ts f (deep+1) (i+1+1) with
    |none=>rw[hr] at hx;cases hx
    |some r=>
    obtain⟨y,k⟩:=r;rw[hr,Option.bind_some] at hx;split at hx
    case isFalse=>cases hx
    case isTrue hc2=>
    obtain⟨hk,hub⟩:=hc2;simp only[Option.some.injEq,Prod.mk.injEq] at hx;obtain⟨rfl,rfl⟩:=hx;simp only at hk hub;rw[show tkK ts 4 ⟨#[91]⟩ (i+1)=true from hbx];rw[eyeI_t (show tkK ts 4 ⟨#[91]⟩ (i+1)=true from hbx)] at h8;have H8:=Zh h8;clear h8 hbx;have HUB:=Zh hub;clear hub;have hz8:w.heap.size<w8.heap.size:=blk_lt HX8.out;have HC:=Zh (IH w8 (i+1+1) (deep+1) ((deep:Int)+1) y k H8.out hr (by omega) fun q hq=>by have:=HOK.out q hq;omega);clear hr;go_wp2_with fail;refine HC.out.mono ?_;rintro e w9 ⟨A',c',rfl,hk1,hk2,hf9,h9,hr9⟩;have hz9:=hf9.size;have H9:=Zh h9;have HX9:=Zh (Zb HX8.out hf9 (by omega));have HF9:=Zh (HF8.out.trans hf9);have HR9:=Zh hr9;have HK1:=Zh hk1;have HK2:=Zh hk2
    clear hf9 h9 hr9 hk1 hk2 HC;obtain⟨W10,HW10⟩:∃W10,W10=w9.alloc (.cells #[vu8 y.kind,vu64 y.num,.string y.name,vu8 y.op,.slice A' y.kids.length c'] 44):=⟨_,rfl⟩;have hf10:Fr Non w9 W10:=by rw[HW10];exact(Zf _).alloc _
    have hb10:W10.heap[w9.heap.size]? =some (.cells #[vu8 y.kind,vu64 y.num,.string y.name,vu8 y.op,.slice A' y.kids.length c'] 44 (0,0)):=by rw[HW10];exact blk_new _ _ _
    have H10:=Zh (H9.out.stay hf10);have HX10:=Zh (Zb HX9.out hf10 (non _));have HF10:=Zh (HF9.out.trans hf10.non);have HR10:=Zh (rowsK HR9.out hf10 (fun k hk=>hk.elim) (Nat.le_refl _));have HB10:=Zh hb10;clear hf10 hb10;go_upto_region 25 with fail;rw[←HW10];clear HW10;have hz10:w9.heap.size<W10.heap.size:=blk_lt HB10.out;go_wp2_with fail;refine(need_any ok ts A c be W10 k ⟨#[93]⟩ H10.out hk HUB.out).mono ?_;rintro e w11 ⟨rfl,hf11,h11⟩;have H11:=Zh h11;have HX11:=Zh (Zb HX10.out hf11 (by omega));have HB11:=Zh (Zb HB10.out hf11 (by omega));have HF11:=Zh (HF10.out.trans hf11);have HR11:=Zh (rowsK HR10.out hf11 (fun k hk=>by have hk:k=be:=hk;omega) (Nat.le_refl _));have hz11:=hf11.size;clear hf11 h11;have y0:=(Zc HB11.out).1 0 _ rfl;have y1:=(Zc HB11.out).1 1 _ rfl;have y2:=(Zc HB11.out).1 2 _ rfl;have y3:=(Zc HB11.out).1 3 _ rfl;have y4:=(Zc HB11.out).1 4 _ rfl;obtain⟨W12,HW12⟩:∃W12,W12=w11.alloc (.cells #[vu8 y.kind,vu64 y.num,.string y.name,vu8 y.op,.slice A' y.kids.length c'] 44):=⟨_,rfl⟩;have hf12:Fr Non w11 W12:=by rw[HW12];exact(Zf _).alloc _
    have HX12:=Zh (Zb HX11.out hf12 (non _));have HB12:=Zh (show W12.heap[w11.heap.size]? =some (.cells #[vu8 y.kind,vu64 y.num,.string y.name,vu8 y.op,.slice A' y.kids.length c'] 44 (0,0)) by rw[HW12];exact blk_new _ _ _);have H12:=Zh (H11.out.stay hf12);have HF12:=Zh (HF11.out.trans hf12.non);have HR12:=Zh (rowsK HR11.out hf12 (fun k hk=>hk.elim) (Nat.le_refl _));have hz12:w11.heap.size<W12.heap.size:=blk_lt HB12.out;clear hf12;have hxl:=HX12.out;rw[HW12] at hxl;have g0:=(Zc hxl).1 0 _ rfl;have g1:=(Zc hxl).1 1 _ rfl;have g2:=(Zc hxl).1 2 _ rfl;have g3:=(Zc hxl).1 3 _ rfl;have g4:=(Zc hxl).1 4 _ rfl;have gf:=(Zc hxl).2;clear hxl;go_wp2_with fail;rw[←HW12];clear HW12 g0 g1 g2 g3 g4 gf y0 y1 y2 y3 y4;have HZ:=Zh (blk_put5 HX12.out (.int .u8 5) (.int .u64 0) (.string t.text) (.int .u8 0) (.slice (some ⟨w11.heap.size,0,none⟩) 1 1));have HFZ:=Zh (fr_put5 (g:=w.heap.size) (w:=W12) (.int .u8 5) (.int .u64 0) (.string t.text) (.int .u8 0) (.slice (some ⟨w11.heap.size,0,none⟩) 1 1));generalize (((((W12.setCell ⟨w.heap.size,0,none⟩ (.int .u8 5)).setCell ⟨w.heap.size,1,none⟩ (.int .u64 0)).setCell ⟨w.heap.size,2,none⟩ (.string t.text)).setCell ⟨w.heap.size,3,none⟩ (.int .u8 0)).setCell ⟨w.heap.size,4,none⟩ (.slice (some ⟨w11.heap.size,0,none⟩) 1 1))=wz at*;have f0:=(Zc HZ.out).1 0 _ rfl;have f1:=(Zc HZ.out).1 1 _ rfl;have f2:=(Zc HZ.out).1 2 _ rfl;have f3:=(Zc HZ.out).1 3 _ rfl;have f4:=(Zc HZ.out).1 4 _ rfl;refine bodyPost_ret (v:=exV 5 0 t.text 0 (some ⟨w11.heap.size,0,none⟩) 1 1) (by simp[results,Tryz.results143,go_sem,f0,f1,f2,f3,f4,exV]) rfl ⟨some ⟨w11.heap.size,0,none⟩,1,rfl,Nat.le_refl _,(by decide:1*64≤reach),HF12.out.then HFZ.out (fun k hk e=>by have e:k=w.heap.size:=e;omega),H12.out.fr HFZ.out (by omega) (fun q hq e=>by have e:q=w.heap.size:=e;have:=HOK.out q hq;omega),?_⟩;have hbz:=Zb HB12.out HFZ.out (by omega);have hzz:=blk_lt hbz;exact rd_exk0 hbz HK1.out HK2.out (rowsK HR12.out HFZ.out (fun k hk=>by have hk:k=w.heap.size:=hk;omega) (Nat.le_of_lt hz8)) ⟨by omega,hzz⟩
theorem qexpr_any (ok:Nat→Prop) (ts:List Tk) (A:Option Addr) (c be:Nat):∀f,ExQ ok ts A c be f
 |0=>fun _ _ _ _ _ _ _ hx=>by rw[exprQ] at hx;cases hx
 |f+1=>qexpr_of ok ts A c be f (qexpr_any ok ts A c be f)
theorem Own.mono {B B':Nat} {e:TypeId} {sz:Nat} {w:World} {v:Value} {l:List (List D)} (h:Own B e sz w v l) (hB:B'≤B):Own B' e sz w v l:=by
 obtain⟨xs,⟨h1,h2⟩,h3⟩:=h;refine⟨xs,⟨h1,?_⟩,h3.mono (fun _ _ _ _ h=>h) fun b hb=>⟨Nat.le_trans hB hb.1,hb.2.1,hb.2.2⟩⟩;rcases h2 with h2|⟨g,cap,cur,hv,hb,r⟩
 ·exact .inl h2
 ·exact .inr ⟨g,cap,cur,hv,Nat.le_trans hB hb,r⟩
theorem own_one {B w0:Nat} {w:World} {x:Ex} {A':Option Addr} {c':Nat} (hr:RdRows (New w0 w) w 5 A' 0 (Ex.ds x.kids)) (hB:B≤w0) (hw:w0≤w.heap.size) (h1:x.kids.length≤c') (h2:x.kids.length*64≤reach):
  Own B 44 5 (w.alloc (.cells #[vu8 x.kind,vu64 x.num,.string x.name,vu8 x.op,.slice A' x.kids.length c'] 44)) (.slice (some ⟨w.heap.size,0,none⟩) 1 1) (Ex.ds [x]):=by
 have hch:=chunk_ex (ok:=okOwn B (w.alloc (.cells #[vu8 x.kind,vu64 x.num,.string x.name,vu8 x.op,.slice A' x.kids.length c'] 44)) (.slice (some ⟨w.heap.size,0,none⟩) 1 1))
  (w:=w.alloc (.cells #[vu8 x.kind,vu64 x.num,.string x.name,vu8 x.op,.slice A' x.kids.length c'] 44)) x h1 h2 (hr.fr ((Zf w).alloc _) (fun _ _=>non _) fun q hq=>⟨Nat.le_trans hB hq.1,by have:=hq.2;simp;omega,fun e=>by
    have e:w.heap.size=q:=by simpa[Value.ownBlock] using e
    have:=hq.2;omega⟩)
 refine⟨[vu8 x.kind,vu64 x.num,.string x.name,vu8 x.op,.slice A' x.kids.length c'],⟨rfl,.inr ⟨w.heap.size,1,#[vu8 x.kind,vu64 x.num,.string x.name,vu8 x.op,.slice A' x.kids.length c'],rfl,by omega,blk_new _ _ _,Nat.le_refl _,by unfold maxLen;omega,rfl,rfl⟩⟩,?_⟩;rw[show Ex.ds [x]=[x.d] by rw[Ex.ds_eq];rfl];exact hch
theorem step_own {t e:TypeId} {z:Value} {size bytes:Nat} (ht:Tryz.prog.underlying t=some (.slice e)) (hi:(Tryz.prog.info? e).map (fun i=>(i.zero,i.size,i.bytes))=some (some z,size,bytes)) (hzs:z.cells.size=size) (hsz:0<size) (hby:bytes≤200)
  {ops:Array Oper} {o:Oper} {a:Act} {K:Act→World→Prop} {Q:Exit→Act→World→Prop} {E:Prop} {w:World} (hgd:o.guard=none) (s x:Operand)
  (ho:o.op= .call {callee:=.builtin .append,args:=#[s,x],argTypes:=#[t,t]})
  (base:Nat) (v:Value) (l:List (List D)) (hs:a.eval s=v) (hown:Own base e size w v l)
  (ad:Addr) (c:Nat) (hx:a.eval x= .slice (some ad) 1 c) (d:List D) (us:List Value) (hch:Chunks (okOwn base w v) w size [d] us) (hnews:∀j u,us[j]? =some u→w.cell? (ad.add j)=some u) (h1:∀u∈us,u.oneCell'=true)
  (hn:l.length≤1000) (hbase:base≤w.heap.size)
  (h:∀A' c' w',l.length+1≤c'→Own base e size w' (.slice A' (l.length+1) c') (l++[d])→Fr (fun k=>base≤k∧v.ownBlock=some k) w w'→K (a.put o.dst (.slice A' (l.length+1) c')) w'):
  if Region.wanted o (yielded ops a.tmps)=true then Oper.wp Tryz.prog o a w K Q else E:=by
 have hw:Region.wanted o (yielded ops a.tmps)=true:=by simp[Region.wanted,hgd]
 rw[if_pos hw];obtain⟨i0,h0,hz1,hz2,hz3⟩:=info_parts hi;obtain⟨xs,hrow,hcs⟩:=hown;have hb3:((l.length+1)+(l.length+1) / 4+192)*bytes≤281474976710656:=by
  have:=Nat.mul_le_mul (show(l.length+1)+(l.length+1) / 4+192≤2000 by omega) hby;omega
 obtain⟨v',w',hr,hrow',hg,hwh⟩:=run_append_where (P:=Tryz.prog) w base t o.type e i0 z size bytes ht h0 hz1 hz2 hz3 hzs hsz v l.length xs hrow ad 1 c us (by rw[hch.length];rfl) hnews h1 (by unfold maxLen;omega) hb3 hbase;have hfr:Fr (fun k=>base≤k∧v.ownBlock=some k) w w':=⟨hg.os,hg.tape,hg.output,hg.size,fun k hk hn=>hg.block k hk fun e=>hn ⟨(hrow.lt k e.symm).1,e.symm⟩⟩;have key:∀b o u,okOwn base w v b→w.cell? ⟨b,o,none⟩=some u→w'.cell? ⟨b,o,none⟩=some u:=fun b o u hb hc=>hfr.cell' hc fun hx=>hb.2.2 hx.2;have hnew:∀b,okOwn base w v b→okOwn base w' v' b:=fun b hb=>⟨hb.1,Nat.lt_of_lt_of_le hb.2.1 hg.size,fun hv=>by
  rcases hwh b hv with h|h
  ·exact hb.2.2 h
  ·have:=hb.2.1;omega⟩
 have hO:Own base e size w' v' (l++[d]):=⟨xs++us,by rw[List.length_append];exact hrow',Chunks.append (hch.mono key hnew) (hcs.mono key hnew)⟩;obtain⟨A',c',rfl,hc'⟩:=row_slice hrow';have hK:=h A' c' w' hc' hO hfr;unfold Oper.wp execOp;simp only[ho,resolve,invoke,builtin,Sem.run_bind,Sem.run_pure,Result.andThen_ok,List.map_toArray,List.map_cons,List.map_nil,hs,hx,hr];exact hK
theorem step_ex {ops:Array Oper} {o:Oper} {a:Act} {K:Act→World→Prop} {Q:Exit→Act→World→Prop} {E:Prop} {w:World} (hgd:o.guard=none) (s x:Operand)
  (ho:o.op= .call {callee:=.builtin .append,args:=#[s,x],argTypes:=#[34,34]})
  (base w0:Nat) (v:Value) (l:List Ex) (y:Ex) (A':Option Addr) (c':Nat) (hs:a.eval s=v) (hown:Own base 44 5 w v (Ex.ds l))
  (h1:y.kids.length≤c') (h2:y.kids.length*64≤reach) (hr:RdRows (New w0 w) w 5 A' 0 (Ex.ds y.kids)) (hv:∀k,v.ownBlock=some k→k<w0) (hw0:base≤w0) (hw1:w0≤w.heap.size)
  (hx:a.eval x= .slice (some ⟨w.heap.size,0,none⟩) 1 1) (hn:l.length≤1000) (n1:Nat) (hn1:l.length+1=n1)
  (h:∀A7 c7 w7,n1≤c7→Own base 44 5 w7 (.slice A7 n1 c7) (Ex.ds (l++[y]))→Fr (fun k=>base≤k∧v.ownBlock=some k) w w7→K (a.put o.dst (.slice A7 n1 c7)) w7):
  if Region.wanted o (yielded ops a.tmps)=true then Oper.wp Tryz.prog o a (w.alloc (.cells #[vu8 y.kind,vu64 y.num,.string y.name,vu8 y.op,.slice A' y.kids.length c'] 44)) K Q else E:=by
 subst hn1;have hfa:Fr Non w (w.alloc (.cells #[vu8 y.kind,vu64 y.num,.string y.name,vu8 y.op,.slice A' y.kids.length c'] 44)):=(Zf w).alloc _;have hlen:(Ex.ds l).length=l.length:=by rw[Ex.ds_eq,List.length_map]
 refine step_own (z:=exZ) (size:=5) (bytes:=64) (by kernel_rfl) (by kernel_rfl) rfl (by decide) (by decide) hgd s x ho base v (Ex.ds l) hs (hown.fr hfa fun _ _=>non _) ⟨w.heap.size,0,none⟩ 1 hx y.d [vu8 y.kind,vu64 y.num,.string y.name,vu8 y.op,.slice A' y.kids.length c']
  (chunk_ex y h1 h2 (hr.fr hfa (fun _ _=>non _) fun q hq=>⟨Nat.le_trans hw0 hq.1,by have:=hq.2;simp;omega,fun e=>by have:=hv q e;have:=hq.1;omega⟩)) (new_cells' rfl) (one_ex _ _ _ _ _ _ _) (by rw[hlen];exact hn) (by simp;omega) ?_
 intro A7 c7 w7 hc hO hf;rw[hlen] at hc hO ⊢;exact h A7 c7 w7 hc (by rw[show Ex.ds (l++[y])=Ex.ds l++[y.d] by rw[Ex.ds_eq,Ex.ds_eq,List.map_append];rfl];exact hO) ((hfa.mono (T:=fun k=>base≤k∧v.ownBlock=some k) fun _ _ h=>h.elim).trans hf)
theorem qexprs_any (ok:Nat→Prop) (ts:List Tk) (A:Option Addr) (c be bp f:Nat) (w:World) (i n B:Nat) (x:Ex) (j:Nat) (h:PsAt ok ts A c be bp w i n) (hx:exprQ ts f 1 i=some (x,j)) (hok:∀q,ok q→q<w.heap.size) (hB:B≤w.heap.size):
  Calls Tryz.prog 130 #[.pointer (some ⟨bp,0,none⟩)] w fun e w'=>∃g,e= .returned (.slice (some ⟨g,0,none⟩) 1 1)∧Fr (PS be bp) w w'∧PsAt ok ts A c be bp w' j n∧Own B 44 5 w' (.slice (some ⟨g,0,none⟩) 1 1) (Ex.ds [x]):=by
 have p0:=(Zc h.blk).1 0 _ rfl;have H:=Zh h;clear h;have HC:=Zh (qexpr_any ok ts A c be f w i 1 1 x j H.out.eye hx rfl hok);go_enter Tryz.func130,Tryz.ntmps130;go_wp2_with fail;refine HC.out.mono ?_;rintro e w2 ⟨A',c',rfl,hk1,hk2,hf2,h2,hr⟩;have HF2:=Zh hf2;have H2:=Zh (H.out.moved hf2 h2);clear hf2 h2 p0;have HO:=Zh (own_one hr hB HF2.out.size hk1 hk2);clear hr hk1 hk2;go_wp2_with fail;go_ret;exact⟨w2.heap.size,rfl,(eye_ps HF2.out).trans ((Zf w2).alloc _).non,H2.out.stay ((Zf w2).alloc _),HO.out⟩
end Go.Proofs.YtgiomfnpkkdknaaGreatDoor
