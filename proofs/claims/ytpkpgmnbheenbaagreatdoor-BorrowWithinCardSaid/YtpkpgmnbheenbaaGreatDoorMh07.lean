/- Contracts and laws, Mh07 -/
import Derived.Test.YtpkpgmnbheenbaaGreatDoorMh01
import Derived.Test.YtpkpgmnbheenbaaGreatDoorMh02
import Derived.Test.YtpkpgmnbheenbaaGreatDoorMh03
import Derived.Test.YtpkpgmnbheenbaaGreatDoorMh06
import Derived.WalkKit
import Derived.LaidEql
import Derived.LaidHandle
import Derived.Stop.Asserts
import Derived.RowKitTokens
import Derived.ChangeVars
import Derived.JoinedOf
import Derived.RowKit
import Derived.LaidLaws
import Derived.Stop.Joined
import Derived.Carry
import Derived.Handed
namespace Go.Proofs.YtpkpgmnbheenbaaGreatDoor
open Go.RowKit
set_option linter.unusedVariables false
set_option linter.unusedSimpArgs false
set_option maxHeartbeats 8000000
set_option maxRecDepth 100000
section
open Go.Extern.Stop Go.Stop Go.Extern
abbrev hdl (t:Nat):Value:=.pointer (some ⟨1,t,none⟩)
abbrev rty (t:Nat):Value:=.iface 131 (.agg #[hdl t])
abbrev FT:Nat:=34
abbrev PT:Nat:=66
theorem fx1 (t:Addr) (w:World):(ReflectliteValue.unpack (.iface PT (.pointer (some t)))).run Tryz.prog w
 = .ok (.agg #[hdl PT,.pointer (some ⟨w.heap.size,0,none⟩),.int .u64 150]) (w.alloc (.cells #[.pointer (some t)] PT)):=by kernel_rfl
theorem fx2 (a:Addr) (w:World):(ReflectliteValue.methodAny (ReflectliteValue.valueError "reflectlite.Value.Type" 0) (fun t _ _ _=>ReflectliteType.toType t) #[.agg #[hdl PT,.pointer (some a),.int .u64 150]]).run Tryz.prog w
 = .ok (rty PT) w:=by kernel_rfl
theorem fx3 (h:Value) (w:World):(Go.method 355 131 (.agg #[h]) "Kind").run Tryz.prog w= .ok (207,h) w:=by kernel_rfl
theorem fx4 (w:World):((ReflectliteType.abiMethod fun t=>(fun a:Nat=>Value.int IntKind.u8 (a:Int))<$>Rtype.kind t) #[hdl PT]).run Tryz.prog w= .ok (.int .u8 22) w:=by kernel_rfl
theorem fx5 (w:World):((ReflectliteType.abiMethod fun t=>(fun a:Nat=>Value.int IntKind.u8 (a:Int))<$>Rtype.kind t) #[hdl FT]).run Tryz.prog w= .ok (.int .u8 25) w:=by kernel_rfl
theorem rlm (z:Sem Value) (f:TypeId→Addr→Nat→Nat→Sem Value) (v:Value):
 ReflectliteValue.method z f #[v]=(do match ←ReflectliteValue.parts v with|none=>z|some (t,a,fl)=>f t a fl (fl%32)):=rfl
theorem fx6 (a:Addr) (w:World):(ReflectliteValue.parts (.agg #[hdl PT,.pointer (some a),.int .u64 150])).run Tryz.prog w= .ok (some (PT,a,150)) w:=by kernel_rfl
theorem fx7 (a p:Addr) (W:World) (ha:W.cell? a=some (.pointer (some p))):
  (ReflectliteValue.method (ReflectliteValue.valueError "reflectlite.Value.IsNil" 0) ReflectliteValue.isNil #[.agg #[hdl PT,.pointer (some a),.int .u64 150]]).run Tryz.prog W= .ok (.bool false) W:=by
 rw[rlm];simp only[Sem.run_bind,fx6,Result.andThen];simp[ReflectliteValue.isNil,loadVar,isAgg,underlying,Tryz.underlying66,ha,Result.andThen]
theorem fx8 (h:Value) (w:World):(Go.method 355 131 (.agg #[h]) "Elem").run Tryz.prog w= .ok (219,.agg #[h]) w:=by kernel_rfl
theorem fx9 (h:Value) (w:World):(Go.method 355 131 (.agg #[h]) "Implements").run Tryz.prog w= .ok (220,.agg #[h]) w:=by kernel_rfl
theorem fx10 (h:Value) (w:World):(Go.method 355 131 (.agg #[h]) "AssignableTo").run Tryz.prog w= .ok (217,.agg #[h]) w:=by kernel_rfl
theorem fx10c (h:Value) (w:World):(Go.method 355 131 (.agg #[h]) "Comparable").run Tryz.prog w= .ok (218,.agg #[h]) w:=by kernel_rfl
theorem fx11 (w:World):(ReflectliteType.method ReflectliteType.elem #[.agg #[hdl PT]]).run Tryz.prog w= .ok (rty FT) w:=by kernel_rfl
theorem fx12 (w:World):(ReflectliteType.relation "Implements" ReflectliteType.implements_ #[.agg #[hdl FT],rty 30]).run Tryz.prog w= .ok (.bool true) w:=by kernel_rfl
theorem fx13 (v:Value) (w:World):(ReflectliteType.typeOf #[.iface FT v]).run Tryz.prog w= .ok (rty FT) w:=by kernel_rfl
theorem fx13e (v:Value) (w:World):(ReflectliteType.typeOf #[.iface 32 v]).run Tryz.prog w= .ok (rty 32) w:=by kernel_rfl
theorem fx14 (w:World):(ReflectliteType.relation "AssignableTo" ReflectliteType.assignableTo #[.agg #[hdl FT],rty FT]).run Tryz.prog w= .ok (.bool true) w:=by kernel_rfl
theorem fx15 (x y:Int) (w:World):(ReflectliteValue.unpack (.iface FT (.agg #[.int .i64 x,.int .i64 y]))).run Tryz.prog w
 = .ok (.agg #[hdl FT,.pointer (some ⟨w.heap.size,0,none⟩),.int .u64 153]) (w.alloc (.cells #[.int .i64 x,.int .i64 y] FT)):=by kernel_rfl
theorem fx16 (w:World):(Rtype.elem? PT).run Tryz.prog w= .ok (some FT) w:=by kernel_rfl
theorem fx17 (p:Addr) (w:World):(ReflectliteValue.mk FT p ReflectliteValue.flagAddr).run Tryz.prog w= .ok (.agg #[hdl FT,.pointer (some p),.int .u64 409]) w:=by kernel_rfl
theorem fx18 (a p:Addr) (W:World) (ha:W.cell? a=some (.pointer (some p))):
  (ReflectliteValue.method (ReflectliteValue.valueError "reflectlite.Value.Elem" 0) ReflectliteValue.elem #[.agg #[hdl PT,.pointer (some a),.int .u64 150]]).run Tryz.prog W
    = .ok (.agg #[hdl FT,.pointer (some p),.int .u64 409]) W:=by
 rw[rlm];simp only[Sem.run_bind,fx6,Result.andThen];simp[ReflectliteValue.elem,loadVar,isAgg,underlying,Tryz.underlying66,ha,Result.andThen,fx16,fx17]
theorem rls (v x:Value):ReflectliteValue.set #[v,x]=(do
 let (some (dst,a,fl),some (src,b,_)):=(←ReflectliteValue.parts v,←ReflectliteValue.parts x)
  |unsupported (.noEntry "extern/(internal/reflectlite.Value).Set.zeroValue")
 if fl / ReflectliteValue.flagAddr%2==0 then unsupported (.noEntry "extern/(internal/reflectlite.Value).Set.unaddressable")
 let val ←loadVar src b
 if ←Rtype.directlyAssignable dst src then storeVar dst a val
 else if ←Rtype.implements dst src then
  if(←Rtype.kind src)==20 then
   match val with
   | .nilIface=>unsupported (.noEntry "extern/reflectlite: a nil value of one interface type handed on as a value of another")
   |_=>storeVar dst a val
  else storeVar dst a (.iface src val)
 else panicString ("reflectlite.Set: value of type "++(←Rtype.spelt src)++ " is not assignable to type "++(←Rtype.spelt dst))
 pure (.tuple #[])):=rfl
theorem fx19 (a:Addr) (w:World):(ReflectliteValue.parts (.agg #[hdl FT,.pointer (some a),.int .u64 409])).run Tryz.prog w= .ok (some (FT,a,409)) w:=by kernel_rfl
theorem fx20 (a:Addr) (w:World):(ReflectliteValue.parts (.agg #[hdl FT,.pointer (some a),.int .u64 153])).run Tryz.prog w= .ok (some (FT,a,153)) w:=by kernel_rfl
theorem fx21 (w:World):(Rtype.directlyAssignable FT FT).run Tryz.prog w= .ok true w:=by kernel_rfl
theorem fx23a (b:Nat) (x y:Int) (W:World) (T:TypeId) (hb:W.heap[b]? =some (.cells #[.int .i64 x,.int .i64 y] T (0,0))):
  (loadVar FT ⟨b,0,none⟩).run Tryz.prog W= .ok (.agg #[.int .i64 x,.int .i64 y]) W:=by
 have c0:=(Zc hb).1 0 _ rfl;have c1:=(Zc hb).1 1 _ rfl;have hs:∀w:World,(sizeOf FT).run Tryz.prog w= .ok 2 w:=fun w=>by kernel_rfl
 simp[loadVar,isAgg,underlying,Tryz.underlying34,c0,c1,Result.andThen,hs,loadCells,loadCellsFrom,Addr.add]
theorem fx23b (ta:Nat) (x y x0 y0:Int) (W:World) (ht:W.heap[ta]? =some (.cells #[.int .i64 x0,.int .i64 y0] FT (0,0))):
  (storeVar FT ⟨ta,0,none⟩ (.agg #[.int .i64 x,.int .i64 y])).run Tryz.prog W= .ok () ((W.setCell ⟨ta,0,none⟩ (.int .i64 x)).setCell ⟨ta,1,none⟩ (.int .i64 y)):=by
 have t0:=(Zc ht).1 0 _ rfl;have z0:=(Zc ht).2 0;have ht1:=blk_set ht 0 (.int .i64 x);have t1:=(Zc ht1).1 1 _ rfl;have z1:=(Zc ht1).2 1;have hs:∀w:World,(sizeOf FT).run Tryz.prog w= .ok 2 w:=fun w=>by kernel_rfl
 simp[storeVar,Value.cells,storeCells,Addr.add,hs,Result.andThen];rw[run_store Tryz.prog W ⟨ta,0,none⟩ _ _ (by rfl)];simp[t0,z0];rw[run_store Tryz.prog _ ⟨ta,1,none⟩ _ _ (by rfl)];simp[t1,z1]
theorem fx23 (ta b:Nat) (x y x0 y0:Int) (W:World) (T:TypeId) (hb:W.heap[b]? =some (.cells #[.int .i64 x,.int .i64 y] T (0,0))) (ht:W.heap[ta]? =some (.cells #[.int .i64 x0,.int .i64 y0] FT (0,0))):
  (ReflectliteValue.set #[.agg #[hdl FT,.pointer (some ⟨ta,0,none⟩),.int .u64 409],.agg #[hdl FT,.pointer (some ⟨b,0,none⟩),.int .u64 153]]).run Tryz.prog W
    = .ok (.tuple #[]) ((W.setCell ⟨ta,0,none⟩ (.int .i64 x)).setCell ⟨ta,1,none⟩ (.int .i64 y)):=by
 have h1:=fx23a b x y W T hb;have h2:=fx23b ta x y x0 y0 W ht;rw[rls];simp only[Sem.run_bind,fx19,fx20,Result.andThen];simp[ReflectliteValue.flagAddr,h1,h2,Result.andThen,fx21]
def asW (w:World) (t:Nat) (x y:Int):World:=(((w.alloc (.cells #[.pointer (some ⟨t,0,none⟩)] PT)).alloc (.cells #[hdl PT,.pointer (some ⟨w.heap.size,0,none⟩),.int .u64 150] 87)).alloc (.cells #[hdl PT,.pointer (some ⟨w.heap.size,0,none⟩),.int .u64 150] 87)).alloc (.cells #[.int .i64 x,.int .i64 y] FT)
theorem as_hit (t:Nat) (x y x0 y0:Int) (w:World) (hg:w.cell? ⟨0,0,none⟩=some (rty 30)) (ht0:w.heap[t]? =some (.cells #[.int .i64 x0,.int .i64 y0] FT (0,0))):
  Calls Tryz.prog 39 #[.iface FT (.agg #[.int .i64 x,.int .i64 y]),.iface PT (.pointer (some ⟨t,0,none⟩))] w fun ev w'=>ev= .returned (.bool true)∧w'=((asW w t x y).setCell ⟨t,0,none⟩ (.int .i64 x)).setCell ⟨t,1,none⟩ (.int .i64 y):=by
 unfold asW;have h6:=@run_callFunc_extern Tryz.prog 57 _ (fun args=>ReflectliteValue.unpack (args.getD 0 (.tuple #[]))) Tryz.func57 (by kernel_rfl) (by kernel_rfl) (by kernel_rfl) (by kernel_rfl);have h7:=@run_callFunc_extern Tryz.prog 58 _ (ReflectliteValue.methodAny (ReflectliteValue.valueError "reflectlite.Value.Type" 0) (fun t _ _ _=>ReflectliteType.toType t)) Tryz.func58 (by kernel_rfl) (by kernel_rfl) (by kernel_rfl) (by kernel_rfl);have h8:=@run_callFunc_extern Tryz.prog 59 _ (ReflectliteValue.method (ReflectliteValue.valueError "reflectlite.Value.IsNil" 0) ReflectliteValue.isNil) Tryz.func59 (by kernel_rfl) (by kernel_rfl) (by kernel_rfl) (by kernel_rfl);have h27:=@run_callFunc_extern Tryz.prog 207 _ (ReflectliteType.abiMethod fun t=>do pure (.int .u8 (←Rtype.kind t))) Tryz.func207 (by kernel_rfl) (by kernel_rfl) (by kernel_rfl) (by kernel_rfl);have h37:=@run_callFunc_extern Tryz.prog 219 _ (ReflectliteType.method ReflectliteType.elem) Tryz.func219 (by kernel_rfl) (by kernel_rfl) (by kernel_rfl) (by kernel_rfl);have h38:=@run_callFunc_extern Tryz.prog 220 _ (ReflectliteType.relation "Implements" ReflectliteType.implements_) Tryz.func220 (by kernel_rfl) (by kernel_rfl) (by kernel_rfl) (by kernel_rfl);have h10:=@run_callFunc_extern Tryz.prog 61 _ ReflectliteType.typeOf Tryz.func61 (by kernel_rfl) (by kernel_rfl) (by kernel_rfl) (by kernel_rfl);have h35:=@run_callFunc_extern Tryz.prog 217 _ (ReflectliteType.relation "AssignableTo" ReflectliteType.assignableTo) Tryz.func217 (by kernel_rfl) (by kernel_rfl) (by kernel_rfl) (by kernel_rfl);have h11:=@run_callFunc_extern Tryz.prog 86 _ (ReflectliteValue.method (ReflectliteValue.valueError "reflectlite.Value.Elem" 0) ReflectliteValue.elem) Tryz.func86 (by kernel_rfl) (by kernel_rfl) (by kernel_rfl) (by kernel_rfl);have h12:=@run_callFunc_extern Tryz.prog 87 _ ReflectliteValue.set Tryz.func87 (by kernel_rfl) (by kernel_rfl) (by kernel_rfl) (by kernel_rfl);have tO:=fx13;have mA:=fx10;have a25:=fx14;have v25:=fx15;have f6:=fx1;have f7:=fx2;have mK:=fx3;have mE:=fx8;have mI:=fx9;have k27:=fx4;have k25:=fx5;have e27:=fx11;have i25:=fx12;have n8:=fx7 ⟨w.heap.size,0,none⟩ ⟨t,0,none⟩ ((w.alloc (.cells #[.pointer (some ⟨t,0,none⟩)] PT)).alloc (.cells #[hdl PT,.pointer (some ⟨w.heap.size,0,none⟩),.int .u64 150] 87)) (by simp);have hlt:0<w.heap.size:=by
  rcases Nat.eq_zero_or_pos w.heap.size with h0|h
  ·simp[World.cell?,h0] at hg
  ·exact h
 have hg2:((w.alloc (.cells #[.pointer (some ⟨t,0,none⟩)] PT)).alloc (.cells #[hdl PT,.pointer (some ⟨w.heap.size,0,none⟩),.int .u64 150] 87)).cell? ⟨0,0,none⟩=some (rty 30):=by
  rw[World.cell?_alloc_lt _ _ ⟨0,0,none⟩ (by simp),World.cell?_alloc_lt _ _ ⟨0,0,none⟩ hlt];exact hg
 have el:=fx18 ⟨w.heap.size,0,none⟩ ⟨t,0,none⟩ (((w.alloc (.cells #[.pointer (some ⟨t,0,none⟩)] PT)).alloc (.cells #[hdl PT,.pointer (some ⟨w.heap.size,0,none⟩),.int .u64 150] 87)).alloc (.cells #[hdl PT,.pointer (some ⟨w.heap.size,0,none⟩),.int .u64 150] 87)) (by rw[World.cell?_alloc_lt _ _ ⟨w.heap.size,0,none⟩ (by simp;omega)];simp);have st:=fx23 t (w.heap.size+1+1+1) x y x0 y0 ((((w.alloc (.cells #[.pointer (some ⟨t,0,none⟩)] PT)).alloc (.cells #[hdl PT,.pointer (some ⟨w.heap.size,0,none⟩),.int .u64 150] 87)).alloc (.cells #[hdl PT,.pointer (some ⟨w.heap.size,0,none⟩),.int .u64 150] 87)).alloc (.cells #[.int .i64 x,.int .i64 y] FT)) FT
  (blk_new' (by simp) _ _) (blk_old (blk_old (blk_old (blk_old ht0))))
 go_enter Tryz.func39,Tryz.ntmps39
 go_wp2
 refine wp_loop_rounds 1 ?_;rw[rounds_succ]
 go_wp2
 go_ret;exact⟨rfl,rfl⟩
end
section
open Go.ChangeShapes Go.WideShapes
theorem own_knob:ownKnob Tryz.prog.godebug=none:=by kernel_rfl
theorem et_glob:Program.globalNamed Tryz.prog "errors.errorType"=some 0:=by kernel_rfl
theorem et_type:(Tryz.prog.cutTypes.find? (·.1== "internal/reflectlite.rtype")).map (·.2)=some 131:=by kernel_rfl
theorem et_rows:((List.range (355-100)).filter fun t=>Program.rowNamed Tryz.prog t [101,114,114,111,114])=[30]:=by kernel_rfl
theorem et_size:Tryz.prog.types.size=355-100:=by kernel_rfl
theorem handle_of_laid {W:World} (h:laidMetH Tryz.prog [("errors.errorType",Rows.laid_errors_errorType)] W):W.cell? ⟨0,0,none⟩=some (rty 30):=by
 have h':laidMet Tryz.prog [] W∧handlesMet Tryz.prog [("errors.errorType",Rows.laid_errors_errorType)] W:=h;obtain⟨name,u,ty,e1,e2,e3,e4,e5⟩:=h'.2 _ (List.mem_singleton.2 rfl);have en:name=[101,114,114,111,114]:=(Option.some.inj e1).symm;subst en;obtain rfl:=Option.some.inj (et_type.symm.trans e2);have hm:ty∈(List.range (355-100)).filter fun t=>Program.rowNamed Tryz.prog t [101,114,114,111,114]:=List.mem_filter.2 ⟨List.mem_range.2 (by rw[←et_size];exact e3),e4⟩;rw[et_rows] at hm;obtain rfl:=List.mem_singleton.1 hm;have hh:typeHandle Tryz.prog 30=hdl 30:=by kernel_rfl
 rw[hh] at e5;simpa using World.var?_cell et_glob e5 0
noncomputable def laidWorld (os:Os):World:=
 let w0:=World.holding Tryz.prog os ⟨#[],#[],[]⟩
 {w0 with heap:=w0.heap.modify 0 fun
   | .cells _ t frozen=>.cells #[rty 30] t frozen
   |o=>o}
theorem laidWorld_met (os:Os) (args:Array Value):laidMetH Tryz.prog [("errors.errorType",Rows.laid_errors_errorType)] ((laidWorld os).forCall (fun _ _=>0) ⟨#[],args,[]⟩).memory:=
 laidMetH_of_parts (laidMet_nil _ _) (by kernel_rfl)
theorem laidOut:laidOutB Tryz.prog=true:=by kernel_rfl
theorem readProg:Program.readableRec Tryz.prog 24=true:=by kernel_rfl
theorem rowProg:24<Tryz.prog.types.size:=by rw[et_size];omega
theorem Fr.below {w w':World} (h:Fr Non w w'):Below w.heap.size w w':=⟨h.os,h.tape,h.output,h.size,fun k hk=>h.block k hk (fun h=>h)⟩
section
variable {H:Type} {enc:TypeId×Value→H} {P:Program}
theorem post_of_fr {f:Func} {s:ChangeSpec} {apart fresh handsOn again:Bool} {W W':World} {args:Array Value} {v:Value} {ds gs:List (DataW H)} {before:List MemPlace} (hfr:Fr Non W W')
  (hW:DataW.Whole enc P f.params.toList s.vars apart W args.toList ds gs before)
  (hres:∀(b:Nat) (sp:Nat→Bool) (hd:Bool),DataW.TrodAll enc P W' b sp hd f.resultTypes.toList (v.resultList f.resultTypes.size) (s.fn H (ds++gs)).results [])
  (hargs:∀sp:Nat→Bool,(∀p∈before,sp p.block=true)→DataW.TrodAll enc P W' 0 sp true f.params.toList args.toList (s.fn H (ds++gs)).args before)
  (hvars:∀sp:Nat→Bool,DataW.TrodVars enc P W' sp s.vars (s.fn H (ds++gs)).vars [])
  (hok:∀(j:Nat) (t:TypeId) (r:Value),f.resultTypes[j]? =some t→(v.resultList f.resultTypes.size)[j]? =some r→Value.okWide P W' .any 0 t r):
  s.post enc P f apart fresh handsOn again W args v W':=by
 have hold:∀p∈before,(fun b=>decide (b<W.heap.size)) p.block=true:=fun p hp=>by simpa using hW.lt p hp
 have hlt:∀p∈before,p.block<W.heap.size:=hW.lt;refine⟨ds,gs,before,[],before,[],hW,hres _ _ _,hargs _ hold,hvars _,World.keptBut_mono (fun p hp=>⟨hp,?_⟩) (hfr.below.frame (· ∈before)),fun _=>?_⟩
 ·exact Or.inr (Or.inl hp)
 ·obtain⟨_,_,_,_,_,hz,hn⟩:=hW;refine⟨hok,_,_,([]++before)++[],⟨[]++before,[],trodAll_append (hargs _ (fun _ _=>rfl)) (hres _ _ _),hvars _,rfl,?_,?_⟩,?_⟩
  ·intro b off hp;have hp':MemPlace.cell b off∈before:=by simpa using hp
   have hb:b<W.heap.size:=hlt _ hp';have e:W'.frozen? ⟨b,off,none⟩=W.frozen? ⟨b,off,none⟩:=by unfold World.frozen?;simp only;rw[hfr.block b hb (fun h=>h)]
   rw[e];exact hz b off hp'
  ·intro ha;simpa using hn ha
  ·intro p hp _;simpa using hp
end
end
section
structure Nm where
 buf:Bool
 sec:Bool
 mt:Bool
 own:Bool
 set:Bool
 gone:Bool
 lent:Int
 loops:Int
def Nm.zero:Nm:=⟨false,false,false,false,false,false,0,0⟩
abbrev NL:=List (ByteArray×Nm)
def nhas (l:NL) (s:ByteArray):Bool:=l.any fun p=>sq p.1 s
def nget (l:NL) (s:ByteArray):Nm:=((l.find? fun p=>sq p.1 s).map (·.2)).getD Nm.zero
def nset (l:NL) (s:ByteArray) (x:Nm):NL:=l.map fun p=>if sq p.1 s then(p.1,x) else p
def nput (l:NL) (s:ByteArray) (x:Nm):NL:=if nhas l s then nset l s x else l++[(s,x)]
def ndel (l:NL) (s:ByteArray):NL:=l.filter fun p=> !sq p.1 s
def nkeep (l m:NL):NL:=l.filter fun p=>nhas m p.1
def ngone (l m:NL):NL:=l.map fun p=>(p.1,{p.2 with gone:=p.2.gone||(nget m p.1).gone})
structure Ev where
 nm:NL
 n:Int
 loops:Int
def chk (ru r:Int) (is:Bool):Bool:= !(r==ru)||is
def codeOf (ru:Int):Int:=if ru=1 then 8 else if ru=2 then 120 else if ru=3 then 130 else 140
def Nm.numOk (ru:Int) (x:Nm):Bool:=chk ru 1 (!x.buf)
def Nm.bufOk (ru:Int) (x:Nm):Bool:=chk ru 1 x.buf&&(chk ru 3 (decide (x.lent<2))&&chk ru 4 (!x.gone))
def Nm.turnOk (ru:Int) (x:Nm):Bool:=x.bufOk ru&&(chk ru 1 x.mt&&chk ru 3 (x.lent==0))
mutual
def Ex.sv (g:ByteArray→Nm):Ex→Bool
 | .mk k _ nm _ l=>if k.toNat=2∨k.toNat=5 then(g nm).sec else if k.toNat=3 then(Ex.svs g l).getD 0 false||(Ex.svs g l).getD 1 false else false
def Ex.svs (g:ByteArray→Nm):List Ex→List Bool
 |[]=>[]
 |e::l=>Ex.sv g e::Ex.svs g l
end
mutual
def Ex.so (ru:Int) (g:ByteArray→Nm):Ex→Bool
 | .mk k _ nm o l=>if k.toNat=2 then(g nm).numOk ru else if k.toNat=4 then(g nm).bufOk ru
   else if k.toNat=5 then(g nm).bufOk ru&&(Ex.sos ru g l&&chk ru 2 (!(Ex.svs g l).getD 0 false))
   else if k.toNat=3 then Ex.sos ru g l&&chk ru 2 (!((Ex.svs g l).getD 0 false||(Ex.svs g l).getD 1 false)|| !(o.toNat==13||o.toNat==14)) else true
def Ex.sos (ru:Int) (g:ByteArray→Nm):List Ex→Bool
 |[]=>true
 |e::l=>Ex.so ru g e&&Ex.sos ru g l
end
def Ev.g (a:Ev) (s:ByteArray):Nm:=nget a.nm s
def Ev.into (ru:Int) (a:Ev) (e:Ex) (sec:Bool):Bool:=Ex.so ru a.g e&&chk ru 2 (sec|| !Ex.sv a.g e)
def Ev.give (a:Ev) (s:ByteArray) (x:Nm):Ev:=⟨nput a.nm s {x with loops:=a.loops},a.n,a.loops⟩
def Ev.put (a:Ev) (s:ByteArray) (x:Nm):Ev:=⟨nput a.nm s x,a.n,a.loops⟩
def Ev.del (a:Ev) (s:ByteArray):Ev:=⟨ndel a.nm s,a.n,a.loops⟩
def Ev.with (a:Ev) (l:NL):Ev:=⟨l,a.n,a.loops⟩
def Ev.at (a:Ev) (l:Int):Ev:=⟨a.nm,a.n,l⟩
def Ev.next (a:Ev):Ev:=⟨a.nm,a.n+1,a.loops⟩
def Nm.num (sec set:Bool):Nm:=⟨false,sec,false,false,set,false,0,0⟩
def Nm.bufv (sec mt own:Bool):Nm:=⟨true,sec,mt,own,false,false,0,0⟩
abbrev Er:=Except Int
def Ev.if (a:Ev) (ok:Bool) (r:Er Ev):Er Ev:=if ok then r else .error a.n
def calleeM (P:List Fu) (F:Nat) (s:ByteArray):Fu:=((P.take F).reverse.find? fun f=>sq f.name s).getD Fu.zero
def numsOf (f:Fu):List Pa:=f.params.filter fun x=> !x.buf
def bufsOf (f:Fu):List Pa:=f.params.filter fun x=>x.buf
def Ev.exOk (ru:Int) (a:Ev) (nums:List Pa) (ex:List Ex) (j:Nat):Bool:=a.into ru (exAt ex j) (decide (nums.length≤j)||(nums.getD j Pa.zero).sec)
def timesM (args:List ByteArray) (s:ByteArray):Nat:=args.countP fun x=>sq x s
def Ev.bfOk (ru:Int) (a:Ev) (bufs:List Pa) (args:List ByteArray) (j:Nat):Bool:=
 decide (args.length≤j)||(chk ru 1 ((a.g (args.getD j nob)).mt|| !(bufs.getD j Pa.zero).mt)&&(chk ru 2 ((a.g (args.getD j nob)).sec==(bufs.getD j Pa.zero).sec)&&
  chk ru 3 (!(bufs.getD j Pa.zero).mt||((a.g (args.getD j nob)).lent==0&&timesM args (args.getD j nob)==1))))
def Ev.callOk (ru:Int) (f:Fu) (nm:ByteArray) (ex:List Ex) (args:List ByteArray) (a:Ev):Bool:=
 (List.range ex.length).all (a.exOk ru (numsOf f) ex)&&(args.all (fun s=>(a.g s).bufOk ru)&&
   (chk ru 1 (((numsOf f).length==ex.length)&&(((bufsOf f).length==args.length)&&(emp nm||decide (0<f.ret.length))))&&(List.range (bufsOf f).length).all (a.bfOk ru (bufsOf f) args)))
def Ev.sealOk (ru:Int) (P:List Fu) (F:Nat) (a:Ev):Bool:=chk ru 1 (F+1==P.length)&&a.nm.all fun p=>chk ru 2 (p.2.buf|| !p.2.sec)
def Ev.lendOk (ru:Int) (fr:ByteArray) (mt:Bool) (ex:List Ex) (a:Ev):Bool:=a.into ru (exAt ex 0) false&&(a.into ru (exAt ex 1) false&&((a.g fr).bufOk ru&&(!mt||(a.g fr).turnOk ru)))
def Ev.lendIn (nm fr:ByteArray) (mt:Bool) (a:Ev):Ev:=(a.put fr {a.g fr with lent:=if mt then 2 else max (a.g fr).lent 1}).give nm (Nm.bufv (a.g fr).sec mt false)
def Ev.lendOut (nm fr:ByteArray) (l:Int) (a:Ev):Ev:=(a.del nm).put fr {(a.del nm).g fr with lent:=l}
def Ev.moveOk (ru:Int) (fr:ByteArray) (a:Ev):Bool:=(a.g fr).bufOk ru&&(chk ru 1 (a.g fr).own&&(chk ru 3 ((a.g fr).lent==0)&&chk ru 4 ((a.g fr).loops==a.loops)))
def Ev.loopIn (nm:ByteArray) (a:Ev):Ev:=if emp nm then a.at (a.loops+1) else(a.at (a.loops+1)).give nm Nm.zero
def Ev.setOk (ru:Int) (nm:ByteArray) (e:Ex) (a:Ev):Bool:=Ex.so ru a.g e&&((a.g nm).numOk ru&&(chk ru 1 (a.g nm).set&&chk ru 2 ((a.g nm).sec|| !Ex.sv a.g e)))
def Ev.putOk (ru:Int) (nm:ByteArray) (e e1:Ex) (a:Ev):Bool:=a.into ru e false&&(Ex.so ru a.g e1&&((a.g nm).turnOk ru&&chk ru 2 ((a.g nm).sec|| !Ex.sv a.g e1)))
def evKeep (a:Ev) (r:Er Ev):Er Ev:=match r with
 | .error x=>.error x
 | .ok a1=>.ok (a1.with (nkeep a1.nm a.nm))
mutual
def evStmt (ru:Int) (P:List Fu) (F:Nat):St→Ev→Er Ev
 | .mk k nm fr sec mt ex args body els,a=>
   if k.toNat=1 then a.if (a.into ru (exAt ex 0) sec) (.ok (a.give nm (Nm.num sec true)))
   else if k.toNat=2 then a.if (a.setOk ru nm (exAt ex 0)) (.ok a)
   else if k.toNat=3 then a.if (a.into ru (exAt ex 0) false) (.ok (a.give nm (Nm.bufv sec true true)))
   else if k.toNat=4 then a.if (a.putOk ru nm (exAt ex 0) (exAt ex 1)) (.ok a)
   else if k.toNat=5 then a.if (a.into ru (exAt ex 0) false) (match evKeep a (evStmts ru P F body a) with
    | .error x=>.error x
    | .ok a1=>match evKeep (a1.with a.nm) (evStmts ru P F els (a1.with a.nm)) with
      | .error x=>.error x
      | .ok a2=>.ok (a2.with (ngone a2.nm a1.nm)))
   else if k.toNat=6∨k.toNat=7 then a.if (a.into ru (exAt ex 0) false) (match evKeep (a.loopIn nm) (evStmts ru P F body (a.loopIn nm)) with
    | .error x=>.error x
    | .ok a1=>.ok ((a1.at (a1.loops-1)).del nm))
   else if k.toNat=8 then a.if (a.lendOk ru fr mt ex) (match evKeep (a.lendIn nm fr mt) (evStmts ru P F body (a.lendIn nm fr mt)) with
    | .error x=>.error x
    | .ok a1=>.ok (a1.lendOut nm fr (a.g fr).lent))
   else if k.toNat=9 then a.if (a.moveOk ru fr) (.ok ((a.put fr {a.g fr with gone:=true}).give nm (Nm.bufv (a.g fr).sec true true)))
   else if k.toNat=10 then a.if (Ex.so ru a.g (exAt ex 0)) (.ok (a.give nm Nm.zero))
   else if k.toNat=11 then a.if (a.callOk ru (calleeM P F fr) nm ex args) (.ok (if emp nm then a else a.give nm (Nm.num (calleeM P F fr).sec false)))
   else a.if (a.sealOk ru P F) (.ok a)
def evStmts (ru:Int) (P:List Fu) (F:Nat):List St→Ev→Er Ev
 |[],a=>.ok a
 |x::l,a=>match evStmt ru P F x a.next with
  | .error y=>.error y
  | .ok a1=>evStmts ru P F l a1
end
def evBlock (ru:Int) (P:List Fu) (F:Nat) (l:List St) (a:Ev):Er Ev:=evKeep a (evStmts ru P F l a)
def evParam (a:Ev) (x:Pa):Ev:=a.give x.name ⟨x.buf,x.sec,x.mt,false,false,false,0,0⟩
def evParams (l:List Pa) (a:Ev):Ev:=l.foldl evParam a
def evFun (ru:Int) (P:List Fu) (F:Nat) (f:Fu) (n:Int):Er Int:=match evStmts ru P F f.body (evParams f.params ⟨[],n,0⟩) with
 | .error x=>.error x
 | .ok a=>if f.ret.all (fun e=>a.into ru e f.sec) then .ok (a.n+1+1) else .error (a.n+1)
def evWalk (ru:Int) (P:List Fu):Nat→Er Int
 |0=>.ok 0
 |i+1=>match evWalk ru P i with
  | .error x=>.error x
  | .ok n=>evFun ru P i (P.getD i Fu.zero) n
def evCheck (ru:Int) (P:List Fu):Int×Int:=match evWalk ru P P.length with
 | .error n=>(n,codeOf ru)
 | .ok _=>(0,0)
section
variable (ru:Int) (P:List Fu) (F:Nat) (k:UInt8) (nm fr:ByteArray) (sec mt:Bool) (ex:List Ex) (args:List ByteArray) (body els:List St) (a:Ev)
theorem ev_1 (h:k.toNat=1):evStmt ru P F (.mk k nm fr sec mt ex args body els) a=a.if (a.into ru (exAt ex 0) sec) (.ok (a.give nm (Nm.num sec true))):=by
 conv=>lhs;unfold evStmt
 rw[if_pos h]
theorem ev_2 (h:k.toNat=2):evStmt ru P F (.mk k nm fr sec mt ex args body els) a=a.if (a.setOk ru nm (exAt ex 0)) (.ok a):=by
 conv=>lhs;unfold evStmt
 rw[if_neg (by omega),if_pos h]
theorem ev_3 (h:k.toNat=3):evStmt ru P F (.mk k nm fr sec mt ex args body els) a=a.if (a.into ru (exAt ex 0) false) (.ok (a.give nm (Nm.bufv sec true true))):=by
 conv=>lhs;unfold evStmt
 rw[if_neg (by omega),if_neg (by omega),if_pos h]
theorem ev_4 (h:k.toNat=4):evStmt ru P F (.mk k nm fr sec mt ex args body els) a=a.if (a.putOk ru nm (exAt ex 0) (exAt ex 1)) (.ok a):=by
 conv=>lhs;unfold evStmt
 rw[if_neg (by omega),if_neg (by omega),if_neg (by omega),if_pos h]
theorem ev_5 (h:k.toNat=5):evStmt ru P F (.mk k nm fr sec mt ex args body els) a=a.if (a.into ru (exAt ex 0) false) (match evBlock ru P F body a with
  | .error x=>.error x
  | .ok a1=>match evBlock ru P F els (a1.with a.nm) with
    | .error x=>.error x
    | .ok a2=>.ok (a2.with (ngone a2.nm a1.nm))):=by
 conv=>lhs;unfold evStmt
 rw[if_neg (by omega),if_neg (by omega),if_neg (by omega),if_neg (by omega),if_pos h];rfl
theorem ev_67 (h:k.toNat=6∨k.toNat=7):evStmt ru P F (.mk k nm fr sec mt ex args body els) a=a.if (a.into ru (exAt ex 0) false) (match evBlock ru P F body (a.loopIn nm) with
  | .error x=>.error x
  | .ok a1=>.ok ((a1.at (a1.loops-1)).del nm)):=by
 conv=>lhs;unfold evStmt
 rw[if_neg (by omega),if_neg (by omega),if_neg (by omega),if_neg (by omega),if_neg (by omega),if_pos h];rfl
theorem ev_8 (h:k.toNat=8):evStmt ru P F (.mk k nm fr sec mt ex args body els) a=a.if (a.lendOk ru fr mt ex) (match evBlock ru P F body (a.lendIn nm fr mt) with
  | .error x=>.error x
  | .ok a1=>.ok (a1.lendOut nm fr (a.g fr).lent)):=by
 conv=>lhs;unfold evStmt
 rw[if_neg (by omega),if_neg (by omega),if_neg (by omega),if_neg (by omega),if_neg (by omega),if_neg (by omega),if_pos h];rfl
theorem ev_9 (h:k.toNat=9):evStmt ru P F (.mk k nm fr sec mt ex args body els) a=a.if (a.moveOk ru fr) (.ok ((a.put fr {a.g fr with gone:=true}).give nm (Nm.bufv (a.g fr).sec true true))):=by
 conv=>lhs;unfold evStmt
 rw[if_neg (by omega),if_neg (by omega),if_neg (by omega),if_neg (by omega),if_neg (by omega),if_neg (by omega),if_neg (by omega),if_pos h]
theorem ev_10 (h:k.toNat=10):evStmt ru P F (.mk k nm fr sec mt ex args body els) a=a.if (Ex.so ru a.g (exAt ex 0)) (.ok (a.give nm Nm.zero)):=by
 conv=>lhs;unfold evStmt
 rw[if_neg (by omega),if_neg (by omega),if_neg (by omega),if_neg (by omega),if_neg (by omega),if_neg (by omega),if_neg (by omega),if_neg (by omega),if_pos h]
theorem ev_11 (h:k.toNat=11):evStmt ru P F (.mk k nm fr sec mt ex args body els) a=a.if (a.callOk ru (calleeM P F fr) nm ex args) (.ok (if emp nm then a else a.give nm (Nm.num (calleeM P F fr).sec false))):=by
 conv=>lhs;unfold evStmt
 rw[if_neg (by omega),if_neg (by omega),if_neg (by omega),if_neg (by omega),if_neg (by omega),if_neg (by omega),if_neg (by omega),if_neg (by omega),if_neg (by omega),if_pos h]
theorem ev_12 (h:11<k.toNat):evStmt ru P F (.mk k nm fr sec mt ex args body els) a=a.if (a.sealOk ru P F) (.ok a):=by
 conv=>lhs;unfold evStmt
 rw[if_neg (by omega),if_neg (by omega),if_neg (by omega),if_neg (by omega),if_neg (by omega),if_neg (by omega),if_neg (by omega),if_neg (by omega),if_neg (by omega),if_neg (by omega)]
end
theorem nodup_inj {α β:Type} {f:α→β}:∀{l:List α},(l.map f).Nodup→∀{x y:α},x∈l→y∈l→f x=f y→x=y
 |z::l,h,x,y,hx,hy,e=>by
  rw[List.map_cons,List.nodup_cons] at h;rcases List.mem_cons.1 hx with hxz|hxl<;>rcases List.mem_cons.1 hy with hyz|hyl
  ·exact hxz.trans hyz.symm
  ·exact absurd (List.mem_map.2 ⟨y,hyl,by rw[←e,hxz]⟩) h.1
  ·exact absurd (List.mem_map.2 ⟨x,hxl,by rw[e,hyz]⟩) h.1
  ·exact nodup_inj h.2 hxl hyl e
theorem evif_ok {a a1:Ev} {ok:Bool} {r:Er Ev} (h:a.if ok r= .ok a1):ok=true∧r= .ok a1:=by
 unfold Ev.if at h;cases ok with
 |true=>exact⟨rfl,h⟩
 |false=>cases h
theorem evKeep_ok {a a1:Ev} {r:Er Ev} (h:evKeep a r= .ok a1):∃a2,r= .ok a2∧a1=a2.with (nkeep a2.nm a.nm):=by
 cases r with
 |error x=>cases h
 |ok a2=>cases h;exact⟨a2,rfl,rfl⟩
theorem loopIn_n (a:Ev) (nm:ByteArray):(a.loopIn nm).n=a.n∧(a.loopIn nm).loops=a.loops+1:=by unfold Ev.loopIn;split<;>exact⟨rfl,rfl⟩
mutual
theorem evStmt_n (ru:Int) (P:List Fu) (F:Nat):∀(st:St) (a a1:Ev),evStmt ru P F st a= .ok a1→a1.loops=a.loops∧a.n≤a1.n∧a1.n+1≤a.n+st.size
 | .mk k nm fr sec mt ex args body els,a,a1,h=>by
   have hsz:(St.mk k nm fr sec mt ex args body els).size=1+St.sizes body+St.sizes els:=by simp only[St.size]
   rw[hsz];by_cases h1:k.toNat=1
   ·rw[ev_1 _ _ _ _ _ _ _ _ _ _ _ _ _ h1] at h;obtain⟨_,h⟩:=evif_ok h;cases h;exact⟨rfl,Int.le_refl _,by show a.n+1≤_;omega⟩
   by_cases h2:k.toNat=2
   ·rw[ev_2 _ _ _ _ _ _ _ _ _ _ _ _ _ h2] at h;obtain⟨_,h⟩:=evif_ok h;cases h;exact⟨rfl,Int.le_refl _,by omega⟩
   by_cases h3:k.toNat=3
   ·rw[ev_3 _ _ _ _ _ _ _ _ _ _ _ _ _ h3] at h;obtain⟨_,h⟩:=evif_ok h;cases h;exact⟨rfl,Int.le_refl _,by show a.n+1≤_;omega⟩
   by_cases h4:k.toNat=4
   ·rw[ev_4 _ _ _ _ _ _ _ _ _ _ _ _ _ h4] at h;obtain⟨_,h⟩:=evif_ok h;cases h;exact⟨rfl,Int.le_refl _,by omega⟩
   by_cases h5:k.toNat=5
   ·rw[ev_5 _ _ _ _ _ _ _ _ _ _ _ _ _ h5] at h;obtain⟨_,h⟩:=evif_ok h;split at h
    ·cases h
    ·rename_i a2 hb;split at h
     ·cases h
     ·rename_i a3 he;cases h;obtain⟨b2,hb2,rfl⟩:=evKeep_ok hb;obtain⟨b3,hb3,rfl⟩:=evKeep_ok he;have g2:=evStmts_n ru P F body a b2 hb2;have g3:=evStmts_n ru P F els _ b3 hb3;simp only[Ev.with] at g2 g3 ⊢;omega
   by_cases h67:k.toNat=6∨k.toNat=7
   ·rw[ev_67 _ _ _ _ _ _ _ _ _ _ _ _ _ h67] at h;obtain⟨_,h⟩:=evif_ok h;split at h
    ·cases h
    ·rename_i a2 hb;cases h;obtain⟨b2,hb2,rfl⟩:=evKeep_ok hb;have g2:=evStmts_n ru P F body _ b2 hb2;rw[(loopIn_n a nm).1,(loopIn_n a nm).2] at g2;simp only[Ev.with,Ev.del,Ev.at] at g2 ⊢;omega
   by_cases h8:k.toNat=8
   ·rw[ev_8 _ _ _ _ _ _ _ _ _ _ _ _ _ h8] at h;obtain⟨_,h⟩:=evif_ok h;split at h
    ·cases h
    ·rename_i a2 hb;cases h;obtain⟨b2,hb2,rfl⟩:=evKeep_ok hb;have g2:=evStmts_n ru P F body _ b2 hb2;simp only[Ev.with,Ev.del,Ev.put,Ev.lendOut,Ev.lendIn,Ev.give] at g2 ⊢;omega
   by_cases h9:k.toNat=9
   ·rw[ev_9 _ _ _ _ _ _ _ _ _ _ _ _ _ h9] at h;obtain⟨_,h⟩:=evif_ok h;cases h;exact⟨rfl,Int.le_refl _,by show a.n+1≤_;omega⟩
   by_cases h10:k.toNat=10
   ·rw[ev_10 _ _ _ _ _ _ _ _ _ _ _ _ _ h10] at h;obtain⟨_,h⟩:=evif_ok h;cases h;exact⟨rfl,Int.le_refl _,by show a.n+1≤_;omega⟩
   by_cases h11:k.toNat=11
   ·rw[ev_11 _ _ _ _ _ _ _ _ _ _ _ _ _ h11] at h;obtain⟨_,h⟩:=evif_ok h;cases h;split
    ·exact⟨rfl,Int.le_refl _,by omega⟩
    ·exact⟨rfl,Int.le_refl _,by show a.n+1≤_;omega⟩
   by_cases h12:11<k.toNat
   ·rw[ev_12 _ _ _ _ _ _ _ _ _ _ _ _ _ h12] at h;obtain⟨_,h⟩:=evif_ok h;cases h;exact⟨rfl,Int.le_refl _,by omega⟩
   ·have h0:k.toNat=0:=by omega
    unfold evStmt at h;rw[if_neg h1,if_neg h2,if_neg h3,if_neg h4,if_neg h5,if_neg h67,if_neg h8,if_neg h9,if_neg h10,if_neg h11] at h;obtain⟨_,h⟩:=evif_ok h;cases h;exact⟨rfl,Int.le_refl _,by omega⟩
theorem evStmts_n (ru:Int) (P:List Fu) (F:Nat):∀(l:List St) (a a1:Ev),evStmts ru P F l a= .ok a1→a1.loops=a.loops∧a.n≤a1.n∧a1.n≤a.n+St.sizes l
 |[],a,a1,h=>by cases h;exact⟨rfl,Int.le_refl _,by simp[St.sizes]⟩
 |x::l,a,a1,h=>by
  unfold evStmts at h;cases h2:evStmt ru P F x a.next with
  |error y=>rw[h2] at h;cases h
  |ok a2=>
   rw[h2] at h;have g2:=evStmt_n ru P F x _ a2 h2;have g1:=evStmts_n ru P F l a2 a1 h;have h0:a.next.n=a.n+1∧a.next.loops=a.loops:=⟨rfl,rfl⟩;simp only[St.sizes];omega
end
theorem evParams_n:∀(l:List Pa) (a:Ev),(evParams l a).loops=a.loops∧(evParams l a).n=a.n
 |[],a=>⟨rfl,rfl⟩
 |x::l,a=>evParams_n l (evParam a x)
theorem evStmts_snoc (ru:Int) (P:List Fu) (F:Nat) (x:St):∀(l:List St) (a:Ev),evStmts ru P F (l++[x]) a=match evStmts ru P F l a with
  | .error y=>.error y
  | .ok a1=>evStmt ru P F x a1.next
 |[],a=>by
  simp only[List.nil_append,evStmts];cases evStmt ru P F x a.next<;>rfl
 |y::l,a=>by
  simp only[List.cons_append,evStmts];cases evStmt ru P F y a.next with
  |error z=>rfl
  |ok a1=>exact evStmts_snoc ru P F x l a1
theorem evStmts_err (ru:Int) (P:List Fu) (F:Nat) (r:List St) (n:Int):∀(l:List St) (a:Ev),evStmts ru P F l a= .error n→evStmts ru P F (l++r) a= .error n
 |[],a,h=>by cases h
 |y::l,a,h=>by
  simp only[List.cons_append,evStmts] at h ⊢;cases h2:evStmt ru P F y a.next with
  |error z=>rw[h2] at h;exact h
  |ok a1=>rw[h2] at h;exact evStmts_err ru P F r n l a1 h
end
theorem scGive_ne {a:Sc} {s:ByteArray} {x:Int×Int} (h:a.give s= .error x):x.2≠0:=by
 unfold Sc.give at h;split at h
 ·cases h;simp
 ·cases h
theorem scGives_ne {a:Sc} {k:UInt8} {s:ByteArray} {x:Int×Int} (h:a.gives k s= .error x):x.2≠0:=by
 unfold Sc.gives at h;split at h
 ·cases h
 ·split at h
  ·rename_i hg;cases h;exact scGive_ne hg
  ·cases h
mutual
theorem scStmt_ne (P:List Fu) (F:Nat):∀(s:St) (a:Sc) (x:Int×Int),scStmt P F s a= .error x→x.2≠0
 | .mk k nm fr se mt ex args body els,a,x,h=>by
   rw[scStmt] at h;split at h
   ·cases h;simp
   ·split at h
    ·rename_i hg;cases h;exact scGives_ne hg
    ·split at h
     ·rename_i hg;cases h;exact scStmts_ne P F body _ _ _ hg
     ·split at h
      ·rename_i hg;cases h;exact scStmts_ne P F els _ _ _ hg
      ·split at h<;>cases h
theorem scStmts_ne (P:List Fu) (F:Nat):∀(l:List St) (a:Sc) (aw:List ByteArray) (x:Int×Int),scStmts P F l a aw= .error x→x.2≠0
 |[],_,_,_,h=>by rw[scStmts] at h;cases h
 |s::l,a,aw,x,h=>by
  rw[scStmts] at h;split at h
  ·rename_i hg;cases h;exact scStmt_ne P F s _ _ hg
  ·exact scStmts_ne P F l _ _ _ h
end
theorem scParams_ne:∀(l:List Pa) (a:Sc) (x:Int×Int),scParams l a= .error x→x.2≠0
 |[],_,_,h=>by rw[scParams] at h;cases h
 |p::l,a,x,h=>by
  rw[scParams] at h;split at h
  ·rename_i hg;cases h;exact scGive_ne hg
  ·exact scParams_ne l _ _ h
theorem scFun_ne {P:List Fu} {F:Nat} {f:Fu} {n:Int} {x:Int×Int} (h:scFun P F f n= .error x):x.2≠0:=by
 unfold scFun at h;split at h
 ·cases h;simp
 ·split at h
  ·rename_i hg;cases h;exact scParams_ne _ _ _ hg
  ·split at h
   ·rename_i hg;cases h;exact scStmts_ne _ _ _ _ _ _ hg
   ·split at h
    ·cases h
    ·cases h;simp
theorem scWalk_ne (P:List Fu):∀(n:Nat) (x:Int×Int),scWalk P n= .error x→x.2≠0
 |0,_,h=>by rw[scWalk] at h;cases h
 |n+1,x,h=>by
  rw[scWalk] at h;split at h
  ·rename_i hg;cases h;exact scWalk_ne P n _ hg
  ·exact scFun_ne h
def layM (P:List Fu):Nat→Int×Int
 |0=>scCheck P
 |k+1=>if(layM P k).2≠0 then layM P k else evCheck (k+1:Nat) P
theorem sc_ok {P:List Fu} (h:(scCheck P).2=0):mayM P=true∧∃m,scWalk P P.length= .ok m:=by
 cases hm:mayM P with
 |false=>
  rw[scCheck,hm] at h;have h:(2:Int)=0:=h;exact absurd h (by decide)
 |true=>
  refine⟨rfl,?_⟩;cases hx:scWalk P P.length with
  |ok m=>exact⟨m,rfl⟩
  |error x=>
   rw[scCheck,hm,hx] at h;simp only[if_true] at h;exact absurd h (scWalk_ne P _ _ hx)
theorem layM_sc {P:List Fu}:∀k,(layM P k).2=0→(scCheck P).2=0
 |0,h=>h
 |k+1,h=>by
  rw[layM] at h;split at h
  ·rename_i hne;exact absurd h hne
  ·rename_i he;exact layM_sc k (by simpa using he)
structure EdC where
 kd:UInt8
 put:St
 inside:Bool
 extra:Bool
structure EdS where
 K:Int
 n:Int
 at_:Int
 done:Bool
 fl:Bool
def quest:ByteArray:=⟨#[63]⟩
def num0:Ex:=.mk 1 0 ⟨#[]⟩ 0 []
def EdC.of (c:EdC) (fr:ByteArray):St:=match c.put with
 | .mk k nm f sec mt ex args body els=>.mk k (if sq nm quest then fr else nm) (if sq f quest then fr else f) sec mt ex args body els
def EdS.next (e:EdS):EdS:=⟨e.K,e.n+1,e.at_,e.done,e.fl⟩
def EdS.hit (e:EdS) (c:EdC) (k:UInt8):Bool:=k.toNat==c.kd.toNat&& !e.done
def EdS.here (e:EdS) (c:EdC) (k:UInt8):Bool:=e.hit c k&&e.K==0
def EdS.pass (e:EdS) (c:EdC) (k:UInt8):EdS:=if e.hit c k then⟨e.K-1,e.n,e.at_,e.done,e.fl⟩ else e
def EdS.did (e:EdS) (b:Bool):EdS:=⟨e.K,e.n,e.n,true,b⟩
mutual
def St.ed (c:EdC):St→EdS→List St×EdS
 | .mk k nm fr sec mt ex args body els,e0=>
   let e:=e0.next
   let h:=e.here c k
   let e1:=e.pass c k
   let e2:=if h&&c.extra then e1.did mt else e1
   let b:=St.eds c body e2
   let e3:=if h&&c.inside then b.2.next.did mt else b.2
   let l:=St.eds c els e3
   let s':St:=.mk k nm fr sec mt (if h&&c.extra then ex++[num0] else ex) args (if h&&c.inside then b.1++[c.of fr] else b.1) l.1
   if h&&(!c.inside&& !c.extra) then([s',c.of fr],l.2.next.did mt) else([s'],l.2)
def St.eds (c:EdC):List St→EdS→List St×EdS
 |[],e=>([],e)
 |s::l,e=>let r:=St.ed c s e;let q:=St.eds c l r.2;(r.1++q.1,q.2)
end
def Fu.ed (c:EdC) (f:Fu) (e:EdS):Fu×EdS:=let b:=St.eds c f.body e;(⟨f.name,f.params,b.1,f.sec,f.ret⟩,⟨b.2.K,b.2.n+2,b.2.at_,b.2.done,b.2.fl⟩)
def Fu.eds (c:EdC):List Fu→EdS→List Fu×EdS
 |[],e=>([],e)
 |f::l,e=>let r:=f.ed c e;let q:=Fu.eds c l r.2;(r.1::q.1,q.2)
theorem hit_done {e:EdS} (c:EdC) (k:UInt8) (h:e.done=true):e.hit c k=false:=by unfold EdS.hit;rw[h];simp
theorem pass_done {e:EdS} (c:EdC) (k:UInt8) (h:e.done=true):e.pass c k=e:=by unfold EdS.pass;rw[hit_done c k h];rfl
theorem here_done {e:EdS} (c:EdC) (k:UInt8) (h:e.done=true):e.here c k=false:=by unfold EdS.here;rw[hit_done c k h];rfl
theorem pass_nd (e:EdS) (c:EdC) (k:UInt8):(e.pass c k).n=e.n∧(e.pass c k).at_=e.at_∧(e.pass c k).done=e.done∧(e.pass c k).fl=e.fl:=by unfold EdS.pass;split<;>exact⟨rfl,rfl,rfl,rfl⟩
mutual
theorem ed_done (c:EdC):∀(s:St) (e:EdS),e.done=true→s.ed c e=([s],⟨e.K,e.n+s.size,e.at_,e.done,e.fl⟩)
 | .mk k nm fr sec mt ex args body els,e,h=>by
   have hn:e.next.done=true:=h;rw[St.ed];simp only[here_done c k hn,pass_done c k hn,Bool.false_and,Bool.false_eq_true,if_false];have h1:=eds_done c body e.next hn;rw[h1];simp only;have h2:=eds_done c els ⟨e.next.K,e.next.n+St.sizes body,e.next.at_,e.next.done,e.next.fl⟩ hn;rw[h2];simp only[EdS.next,St.size];congr 2;omega
theorem eds_done (c:EdC):∀(l:List St) (e:EdS),e.done=true→St.eds c l e=(l,⟨e.K,e.n+St.sizes l,e.at_,e.done,e.fl⟩)
 |[],e,_=>by rw[St.eds];simp[St.sizes]
 |s::l,e,h=>by
  rw[St.eds,ed_done c s e h];simp only;rw[eds_done c l ⟨e.K,e.n+s.size,e.at_,e.done,e.fl⟩ h];simp only[St.sizes,List.cons_append,List.nil_append];congr 2;omega
end
theorem eds_mono (c:EdC) (l:List St) (e:EdS) (h:e.done=true):(St.eds c l e).2.done=true:=by rw[eds_done c l e h];exact h
mutual
theorem ed_not (c:EdC):∀(s:St) (e:EdS),(s.ed c e).2.done=false→∃K,s.ed c e=([s],⟨K,e.n+s.size,e.at_,false,e.fl⟩)
 | .mk k nm fr sec mt ex args body els,e,h=>by
   rw[St.ed] at h ⊢
   try simp only at h ⊢
   cases hh:e.next.here c k
   ·rw[hh] at h;simp only[Bool.false_and,Bool.false_eq_true,if_false] at h ⊢;cases hb:(St.eds c body (e.next.pass c k)).2.done
    ·obtain⟨K1,e1⟩:=eds_not c body (e.next.pass c k) hb;rw[e1] at h ⊢;simp only at h ⊢;obtain⟨K2,e2⟩:=eds_not c els _ h;rw[e2];refine⟨K2,?_⟩;have hp:=pass_nd e.next c k;have hp1:(e.next.pass c k).n=e.n+1:=hp.1;have hp2:(e.next.pass c k).at_=e.at_:=hp.2.1;have hp3:(e.next.pass c k).fl=e.fl:=hp.2.2.2;simp only[hp1,hp2,hp3,St.size];congr 2;omega
    ·have:=eds_mono c els _ hb;rw[this] at h;cases h
   ·exfalso;rw[hh] at h;simp only[Bool.true_and] at h;cases hx:c.extra<;>cases hi:c.inside<;>rw[hx,hi] at h<;>simp only[Bool.not_true,Bool.not_false,Bool.and_true,Bool.and_false,Bool.true_and,Bool.false_eq_true,if_false,if_true] at h
    ·cases h
    ·rw[eds_mono c els ((St.eds c body (e.next.pass c k)).2.next.did mt) rfl] at h;cases h
    ·rw[eds_mono c els _ (eds_mono c body ((e.next.pass c k).did mt) rfl)] at h;cases h
    ·rw[eds_mono c els ((St.eds c body ((e.next.pass c k).did mt)).2.next.did mt) rfl] at h;cases h
theorem eds_not (c:EdC):∀(l:List St) (e:EdS),(St.eds c l e).2.done=false→∃K,St.eds c l e=(l,⟨K,e.n+St.sizes l,e.at_,false,e.fl⟩)
 |[],e,h=>by
  rw[St.eds] at h ⊢;obtain⟨K,n,a,d,fl⟩:=e;simp only at h;subst h;exact⟨K,by simp[St.sizes]⟩
 |s::l,e,h=>by
  rw[St.eds] at h ⊢;simp only at h ⊢;cases hs:(s.ed c e).2.done
  ·obtain⟨K1,e1⟩:=ed_not c s e hs;rw[e1] at h ⊢;simp only at h ⊢;obtain⟨K2,e2⟩:=eds_not c l _ h;rw[e2];refine⟨K2,?_⟩;simp only[St.sizes,List.cons_append,List.nil_append];congr 2;omega
  ·rw[eds_mono c l _ hs] at h;cases h
end
mutual
theorem ed_neg (c:EdC):∀(s:St) (e:EdS),e.K<0→e.done=false→(s.ed c e).2.done=false∧(s.ed c e).2.K<0
 | .mk k nm fr sec mt ex args body els,e,hK,hd=>by
   have hh:e.next.here c k=false:=by
    unfold EdS.here;have:(e.next.K==0)=false:=by rw[beq_eq_false_iff_ne];show e.K≠0;omega
    rw[this,Bool.and_false]
   have hp:=pass_nd e.next c k;have hK1:(e.next.pass c k).K<0:=by
    unfold EdS.pass;split
    ·show e.K-1<0;omega
    ·exact hK
   have hd1:(e.next.pass c k).done=false:=by rw[hp.2.2.1];exact hd
   rw[St.ed];simp only[hh,Bool.false_and,Bool.false_eq_true,if_false];have h1:=eds_neg c body _ hK1 hd1;exact eds_neg c els _ h1.2 h1.1
theorem eds_neg (c:EdC):∀(l:List St) (e:EdS),e.K<0→e.done=false→(St.eds c l e).2.done=false∧(St.eds c l e).2.K<0
 |[],e,hK,hd=>by rw[St.eds];exact⟨hd,hK⟩
 |s::l,e,hK,hd=>by
  rw[St.eds];have h1:=ed_neg c s e hK hd;exact eds_neg c l _ h1.2 h1.1
end
def St.edAt (c:EdC):St→List St
 | .mk k nm fr sec mt ex args body els=>.mk k nm fr sec mt (if c.extra then ex++[num0] else ex) args (if c.inside then body++[c.of fr] else body) els::if !c.inside&& !c.extra then[c.of fr] else[]
def atOf (c:EdC) (s:St) (n:Int):Int:=if c.extra then n else if c.inside then n+St.sizes s.body+1 else n+St.sizes s.body+St.sizes s.els+1
theorem ed_here (c:EdC) (h2:(c.inside&&c.extra)=false) (k:UInt8) (nm fr:ByteArray) (sec mt:Bool) (ex:List Ex) (args:List ByteArray) (body els:List St) (e:EdS) (hh:e.next.here c k=true):
  (St.ed c (.mk k nm fr sec mt ex args body els) e).1=St.edAt c (.mk k nm fr sec mt ex args body els)∧(St.ed c (.mk k nm fr sec mt ex args body els) e).2.at_=atOf c (.mk k nm fr sec mt ex args body els) (e.n+1)∧(St.ed c (.mk k nm fr sec mt ex args body els) e).2.fl=mt:=by
 have hit:e.next.hit c k=true:=by unfold EdS.here at hh;exact(Bool.and_eq_true _ _▸hh).1
 have hK0:e.K=0:=by
  unfold EdS.here at hh;have:=(Bool.and_eq_true _ _▸hh).2;exact eq_of_beq this
 have hd0:e.done=false:=by
  unfold EdS.hit at hit;have:=(Bool.and_eq_true _ _▸hit).2;have h3:e.next.done=e.done:=rfl;rw[h3] at this;simpa using this
 have hp:e.next.pass c k=⟨-1,e.n+1,e.at_,false,e.fl⟩:=by
  unfold EdS.pass;rw[hit,if_pos rfl];simp only[EdS.next,hK0,hd0];rfl
 rw[St.ed,St.edAt,atOf];simp only[hh,hp,Bool.true_and,St.body,St.els];cases hx:c.extra<;>cases hi:c.inside
 ·simp only[Bool.not_false,Bool.and_true,Bool.false_eq_true,if_false,if_true];have n1:=eds_neg c body ⟨-1,e.n+1,e.at_,false,e.fl⟩ (by simp) rfl;obtain⟨K1,e1⟩:=eds_not c body _ n1.1;rw[e1] at n1 ⊢;simp only at n1 ⊢;have n2:=eds_neg c els ⟨K1,e.n+1+St.sizes body,e.at_,false,e.fl⟩ n1.2 rfl;obtain⟨K2,e2⟩:=eds_not c els _ n2.1;rw[e2];exact⟨rfl,rfl,rfl⟩
 ·simp only[Bool.not_false,Bool.not_true,Bool.and_true,Bool.false_eq_true,if_false,if_true];have n1:=eds_neg c body ⟨-1,e.n+1,e.at_,false,e.fl⟩ (by simp) rfl;obtain⟨K1,e1⟩:=eds_not c body _ n1.1;rw[e1];simp only;rw[eds_done c els _ rfl];exact⟨rfl,rfl,rfl⟩
 ·simp only[Bool.not_false,Bool.not_true,Bool.and_false,Bool.false_eq_true,if_false,if_true];rw[eds_done c body _ rfl];simp only;rw[eds_done c els _ rfl];exact⟨rfl,rfl,rfl⟩
 ·rw[hx,hi] at h2;cases h2
def bdR (a:Int) (n:Nat) (x:Int×Int):Prop:=a≤x.1∧x.1≤a+n∧(x.2=3∨x.2=9)
theorem give_bd {a:Sc} {s:ByteArray} {x:Int×Int} (h:a.give s= .error x):x=(a.n,9):=by
 unfold Sc.give at h;split at h
 ·cases h;rfl
 ·cases h
theorem give_sn {a b:Sc} {s:ByteArray} (h:a.give s= .ok b):b.n=a.n:=by
 unfold Sc.give at h;split at h
 ·cases h
 ·cases h;rfl
theorem gives_bd {a:Sc} {k:UInt8} {s:ByteArray} {x:Int×Int} (h:a.gives k s= .error x):x=(a.n,9):=by
 unfold Sc.gives at h;split at h
 ·cases h
 ·split at h
  ·rename_i hg;cases h;exact give_bd hg
  ·cases h
theorem gives_bn {a b:Sc} {k:UInt8} {s:ByteArray} {aw:List ByteArray} (h:a.gives k s= .ok (b,aw)):b.n=a.n:=by
 unfold Sc.gives at h;split at h
 ·cases h;rfl
 ·split at h
  ·cases h
  ·rename_i hg;cases h;exact give_sn hg
def OutN (a:Int) (n:Nat) (r:Except (Int×Int) (Sc×List ByteArray)):Prop:=match r with
 | .error x=>bdR a n x
 | .ok (b,_)=>b.n=a+n
mutual
theorem scStmt_bd (P:List Fu) (F:Nat):∀(s:St) (a:Sc),OutN a.n (s.size-1) (scStmt P F s a)
 | .mk k nm fr se mt ex args body els,a=>by
   rw[scStmt,St.size];split
   ·exact⟨by simp,by simp;omega,.inl rfl⟩
   ·split
    ·rename_i x hg;rw[gives_bd hg];exact⟨by simp,by simp;omega,.inr rfl⟩
    ·rename_i a1 aw hg;have h0:=gives_bn hg;have h1:=scStmts_bd P F body a1 [];revert h1;cases scStmts P F body a1 [] with
     |error x=>rintro⟨g1,g2,g3⟩;exact⟨by omega,by omega,g3⟩
     |ok p=>
      obtain⟨a2,aw2⟩:=p;intro g;have g:a2.n=a1.n+St.sizes body:=g;simp only;have h2:=scStmts_bd P F els (a2.dels aw2) [];have e2:=(dels_gi aw2 a2).2;revert h2;cases scStmts P F els (a2.dels aw2) [] with
      |error x=>rintro⟨g1,g2,g3⟩;exact⟨by omega,by omega,g3⟩
      |ok p=>
       obtain⟨a3,aw3⟩:=p;intro g';have g':a3.n=(a2.dels aw2).n+St.sizes els:=g';have e3:=(dels_gi aw3 a3).2;simp only;split
       ·show(a3.dels aw3).n=_;omega
       ·show(a3.dels aw3).n=_;omega
theorem scStmts_bd (P:List Fu) (F:Nat):∀(l:List St) (a:Sc) (aw:List ByteArray),OutN a.n (St.sizes l) (scStmts P F l a aw)
 |[],a,aw=>by rw[scStmts];simp[OutN,St.sizes]
 |s::l,a,aw=>by
  rw[scStmts,St.sizes];have hs:1≤s.size:=by cases s;simp[St.size];omega
  have h1:=scStmt_bd P F s ⟨a.kn,a.gi,a.n+1⟩;revert h1;cases scStmt P F s ⟨a.kn,a.gi,a.n+1⟩ with
  |error x=>rintro⟨g1,g2,g3⟩;simp only at g1 g2;exact⟨by omega,by omega,g3⟩
  |ok p=>
   obtain⟨a2,aw2⟩:=p;intro g;have g:a2.n=a.n+1+((s.size-1:Nat):Int):=g;simp only;have h2:=scStmts_bd P F l a2 (aw++aw2);revert h2;cases scStmts P F l a2 (aw++aw2) with
   |error x=>rintro⟨g1,g2,g3⟩;exact⟨by omega,by omega,g3⟩
   |ok p=>intro g';have g':p.1.n=a2.n+St.sizes l:=g';show p.1.n=_;omega
end
theorem scParams_bd:∀(l:List Pa) (a:Sc),match scParams l a with
  | .error x=>x=(a.n,9)
  | .ok b=>b.n=a.n
 |[],a=>by rw[scParams]
 |x::l,a=>by
  rw[scParams];cases hg:a.give x.name with
  |error y=>exact give_bd hg
  |ok a1=>have:=scParams_bd l a1;rw[give_sn hg] at this;exact this
theorem scFun_eq' (P:List Fu) (F:Nat) (f:Fu) (n:Int):scFun P F f n=
 if((P.take F).any fun g=>sq g.name f.name)=true then .error (n,9) else match scParams f.params ⟨[],[],n⟩ with
 | .error x=>.error x
 | .ok a=>match scStmts P F f.body a [] with
   | .error x=>.error x
   | .ok (a1,_)=>if Ex.askss (inM a1.kn) f.ret then .ok (a1.n+1+1) else .error (a1.n+1,3):=rfl
theorem scFun_bd (P:List Fu) (F:Nat) (f:Fu) (n:Int):match scFun P F f n with
  | .error x=>bdR n (St.sizes f.body+1) x
  | .ok m=>m=n+(St.sizes f.body+2:Nat):=by
 rw[scFun_eq'];by_cases hd:((P.take F).any fun g=>sq g.name f.name)=true
 ·rw[if_pos hd];show bdR n (St.sizes f.body+1) (n,9);exact⟨by simp,by simp;omega,.inr rfl⟩
 ·rw[if_neg hd];have h1:=scParams_bd f.params ⟨[],[],n⟩;revert h1;cases scParams f.params ⟨[],[],n⟩ with
  |error x=>
   intro hx;have hx:x=(n,9):=hx;subst hx;show bdR n (St.sizes f.body+1) (n,9)
   exact⟨by simp,by simp;omega,.inr rfl⟩
  |ok a=>
   intro ha;have ha:a.n=n:=ha;simp only;have h2:=scStmts_bd P F f.body a [];revert h2;cases scStmts P F f.body a [] with
   |error x=>intro g;have g:bdR a.n (St.sizes f.body) x:=g;show bdR n (St.sizes f.body+1) x;exact⟨by have:=g.1;omega,by have:=g.2.1;omega,g.2.2⟩
   |ok p=>
    obtain⟨a2,aw2⟩:=p;intro g;have g:a2.n=a.n+St.sizes f.body:=g;simp only;cases Ex.askss (inM a2.kn) f.ret
    ·show bdR n (St.sizes f.body+1) (a2.n+1,3);exact⟨by simp;omega,by simp;omega,.inl rfl⟩
    ·show a2.n+1+1=n+(St.sizes f.body+2:Nat);omega
theorem scWalk_bd (P:List Fu):∀i,i≤P.length→match scWalk P i with
  | .error x=>bdR 0 (Fu.sizes (P.take i)+2*i) x
  | .ok n=>n=(Fu.sizes (P.take i)+2*i:Nat):=by
 intro i
 induction i with
 |zero=>intro _;rw[scWalk];simp[Fu.sizes]
 |succ i ih=>
  intro hi;have h:=ih (by omega);have hs:=fsizes_take P i hi;rw[scWalk];revert h;cases scWalk P i with
  |error x=>rintro⟨g1,g2,g3⟩;exact⟨g1,by rw[hs];omega,g3⟩
  |ok n=>
   intro hn;have hn:n=(Fu.sizes (P.take i)+2*i:Nat):=hn;simp only;have hg:P.getD i Fu.zero=P[i]:=by rw[List.getD_eq_getElem?_getD,List.getElem?_eq_getElem (show i<P.length by omega)];rfl
   have h2:=scFun_bd P i (P.getD i Fu.zero) n;rw[hg] at h2 ⊢;revert h2;cases scFun P i P[i] n with
   |error x=>rintro⟨g1,g2,g3⟩;exact⟨by omega,by rw[hs];omega,g3⟩
   |ok m=>intro h;have h:m=n+(St.sizes P[i].body+2:Nat):=h;show m=_;rw[hs];omega
theorem scCheck_bd (P:List Fu) (hm:mayM P=true):0≤(scCheck P).1∧(scCheck P).1<512∧0≤(scCheck P).2∧(scCheck P).2<512:=by
 have h:=scWalk_bd P P.length (Nat.le_refl _);have hm0:=hm;unfold mayM at hm;simp only[Bool.and_eq_true,decide_eq_true_eq] at hm;rw[List.take_length] at h;unfold scCheck;rw[if_pos hm0];revert h;cases scWalk P P.length with
 |error x=>rintro⟨g1,g2,g3⟩;simp only;omega
 |ok n=>intro _;simp
theorem evSt0 (ru:Int) (P:List Fu) (F:Nat) (k:UInt8) (nm fr:ByteArray) (sec mt:Bool) (ex:List Ex) (args:List ByteArray) (body els:List St) (a:Ev) (h:¬(1≤k.toNat∧k.toNat≤11)):evStmt ru P F (.mk k nm fr sec mt ex args body els) a=a.if (a.sealOk ru P F) (.ok a):=by
 unfold evStmt;rw[if_neg (by omega),if_neg (by omega),if_neg (by omega),if_neg (by omega),if_neg (by omega),if_neg (by omega),if_neg (by omega),if_neg (by omega),if_neg (by omega),if_neg (by omega)]
theorem evif_er {a:Ev} {ok:Bool} {r:Er Ev} {n:Int} (h:a.if ok r= .error n):n=a.n∨r= .error n:=by
 unfold Ev.if at h;cases ok with
 |true=>exact .inr h
 |false=>cases h;exact .inl rfl
theorem evKeep_er {a:Ev} {r:Er Ev} {n:Int} (h:evKeep a r= .error n):r= .error n:=by
 cases r with
 |error x=>exact h
 |ok a2=>cases h
theorem flat_er {a a1:Ev} {ok:Bool} {n:Int} (h:a.if ok (.ok a1)= .error n):n=a.n:=by
 rcases evif_er h with h|h
 ·exact h
 ·cases h
mutual
theorem evStmt_er (ru:Int) (P:List Fu) (F:Nat):∀(st:St) (a:Ev) (n:Int),evStmt ru P F st a= .error n→a.n≤n∧n+1≤a.n+st.size
 | .mk k nm fr sec mt ex args body els,a,n,h=>by
   have hsz:(St.mk k nm fr sec mt ex args body els).size=1+St.sizes body+St.sizes els:=by simp only[St.size]
   rw[hsz];by_cases h1:k.toNat=1
   ·rw[ev_1 _ _ _ _ _ _ _ _ _ _ _ _ _ h1] at h;have:=flat_er h;omega
   by_cases h2:k.toNat=2
   ·rw[ev_2 _ _ _ _ _ _ _ _ _ _ _ _ _ h2] at h;have:=flat_er h;omega
   by_cases h3:k.toNat=3
   ·rw[ev_3 _ _ _ _ _ _ _ _ _ _ _ _ _ h3] at h;have:=flat_er h;omega
   by_cases h4:k.toNat=4
   ·rw[ev_4 _ _ _ _ _ _ _ _ _ _ _ _ _ h4] at h;have:=flat_er h;omega
   by_cases h5:k.toNat=5
   ·rw[ev_5 _ _ _ _ _ _ _ _ _ _ _ _ _ h5] at h;rcases evif_er h with h|h
    ·omega
    ·split at h
     ·rename_i x hb;cases h;have:=evStmts_er ru P F body a n (evKeep_er hb);omega
     ·rename_i a2 hb;obtain⟨b2,hb2,rfl⟩:=evKeep_ok hb;have g2:=evStmts_n ru P F body a b2 hb2;split at h
      ·rename_i x he;cases h;have:=evStmts_er ru P F els _ n (evKeep_er he);simp only[Ev.with] at g2 this;omega
      ·cases h
   by_cases h67:k.toNat=6∨k.toNat=7
   ·rw[ev_67 _ _ _ _ _ _ _ _ _ _ _ _ _ h67] at h;rcases evif_er h with h|h
    ·omega
    ·split at h
     ·rename_i x hb;cases h;have:=evStmts_er ru P F body _ n (evKeep_er hb);rw[(loopIn_n a nm).1] at this;omega
     ·cases h
   by_cases h8:k.toNat=8
   ·rw[ev_8 _ _ _ _ _ _ _ _ _ _ _ _ _ h8] at h;rcases evif_er h with h|h
    ·omega
    ·split at h
     ·rename_i x hb;cases h;have:=evStmts_er ru P F body _ n (evKeep_er hb);simp only[Ev.lendIn,Ev.give,Ev.put] at this;omega
     ·cases h
   by_cases h9:k.toNat=9
   ·rw[ev_9 _ _ _ _ _ _ _ _ _ _ _ _ _ h9] at h;have:=flat_er h;omega
   by_cases h10:k.toNat=10
   ·rw[ev_10 _ _ _ _ _ _ _ _ _ _ _ _ _ h10] at h;have:=flat_er h;omega
   by_cases h11:k.toNat=11
   ·rw[ev_11 _ _ _ _ _ _ _ _ _ _ _ _ _ h11] at h;have:=flat_er h;omega
   by_cases h12:11<k.toNat
   ·rw[ev_12 _ _ _ _ _ _ _ _ _ _ _ _ _ h12] at h;have:=flat_er h;omega
   ·unfold evStmt at h;rw[if_neg h1,if_neg h2,if_neg h3,if_neg h4,if_neg h5,if_neg h67,if_neg h8,if_neg h9,if_neg h10,if_neg h11] at h;have:=flat_er h;omega
theorem evStmts_er (ru:Int) (P:List Fu) (F:Nat):∀(l:List St) (a:Ev) (n:Int),evStmts ru P F l a= .error n→a.n≤n∧n≤a.n+St.sizes l
 |[],a,n,h=>by cases h
 |x::l,a,n,h=>by
  unfold evStmts at h;have h0:a.next.n=a.n+1:=rfl;cases h2:evStmt ru P F x a.next with
  |error y=>
   rw[h2] at h;cases h;have:=evStmt_er ru P F x _ _ h2;simp only[St.sizes];omega
  |ok a2=>
   rw[h2] at h;have g2:=evStmt_n ru P F x _ a2 h2;have g1:=evStmts_er ru P F l a2 n h;simp only[St.sizes];omega
end
theorem evFun_bd (ru:Int) (P:List Fu) (F:Nat) (f:Fu) (n:Int):match evFun ru P F f n with
  | .error x=>n≤x∧x≤n+St.sizes f.body+1
  | .ok m=>n≤m∧m≤n+St.sizes f.body+2:=by
 have hp:=(evParams_n f.params ⟨[],n,0⟩).2;unfold evFun;cases h:evStmts ru P F f.body (evParams f.params ⟨[],n,0⟩) with
 |error x=>
  have:=evStmts_er ru P F f.body _ x h;rw[hp] at this;simp only at this ⊢;omega
 |ok a=>
  have:=evStmts_n ru P F f.body _ a h;rw[hp] at this;simp only at this ⊢;split
  ·rename_i h2;split at h2
   ·cases h2
   ·cases h2;omega
  ·rename_i h2;split at h2
   ·cases h2;omega
   ·cases h2
theorem evWalk_bd (ru:Int) (P:List Fu):∀i,i≤P.length→match evWalk ru P i with
  | .error x=>0≤x∧x≤Fu.sizes (P.take i)+2*i
  | .ok m=>0≤m∧m≤Fu.sizes (P.take i)+2*i:=by
 intro i
 induction i with
 |zero=>intro _;rw[evWalk];simp
 |succ i ih=>
  intro hi;have h:=ih (by omega);have hs:=fsizes_take P i hi;rw[evWalk];revert h;cases evWalk ru P i with
  |error x=>intro g;simp only at g ⊢;rw[hs];omega
  |ok n=>
   intro hn;simp only at hn ⊢;have hg:P.getD i Fu.zero=P[i]:=by rw[List.getD_eq_getElem?_getD,List.getElem?_eq_getElem (show i<P.length by omega)];rfl
   have h2:=evFun_bd ru P i (P.getD i Fu.zero) n;rw[hg] at h2 ⊢;revert h2;cases evFun ru P i P[i] n with
   |error x=>intro g;simp only at g ⊢;rw[hs];omega
   |ok m=>intro g;simp only at g ⊢;rw[hs];omega
theorem codeOf_bd (ru:Int):0≤codeOf ru∧codeOf ru<512:=by unfold codeOf;split<;>(try split)<;>(try split)<;>omega
theorem evCheck_bd (ru:Int) (P:List Fu) (hm:mayM P=true):0≤(evCheck ru P).1∧(evCheck ru P).1<512∧0≤(evCheck ru P).2∧(evCheck ru P).2<512:=by
 have h:=evWalk_bd ru P P.length (Nat.le_refl _);unfold mayM at hm;simp only[Bool.and_eq_true,decide_eq_true_eq] at hm;rw[List.take_length] at h;have hc:=codeOf_bd ru;unfold evCheck;revert h;cases evWalk ru P P.length with
 |error x=>intro g;simp only at g ⊢;omega
 |ok n=>intro _;simp
theorem layM_bd (P:List Fu):∀k,0≤(layM P k).1∧(layM P k).1<512∧0≤(layM P k).2∧(layM P k).2<512
 |0=>by
  cases hm:mayM P with
  |true=>exact scCheck_bd P hm
  |false=>rw[layM,scCheck,hm];simp
 |k+1=>by
  rw[layM];split
  ·exact layM_bd P k
  ·rename_i h;exact evCheck_bd _ P (sc_ok (layM_sc k (by simpa using h))).1
end Go.Proofs.YtpkpgmnbheenbaaGreatDoor
