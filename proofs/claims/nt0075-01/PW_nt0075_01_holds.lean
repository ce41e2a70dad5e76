import PyProof.Rows.All
import OpenK.KLine
import KE.KDictSum
import PySem.Challenge.RW_nt0075_01
set_option bootstrap.genMatcherCode false
set_option tactic.hygienic false
set_option Elab.async false
set_option genSizeOfSpec false
set_option maxRecDepth 100000
set_option linter.unusedVariables false
set_option linter.unusedSimpArgs false
set_option maxHeartbeats 8000000
open PySem PySem.Calls PyProof.Rows PySem.W
namespace Mine
noncomputable abbrev pw:Program:=PySem.Challenge.pw_nt0075_01
noncomputable def uR(ok:Thread→Bool)(st:SharedT→Thread→Option (SharedT×Thread)):Nat→SharedT→Thread→Option SharedT
 |0,_,_=>none
 |n+1,s,t=>match through t with
  |true=>some s
  |false=>match ok t with
   |false=>none
   |true=>match st s t with
    |some (s',j1)=>uR ok st n s' j1
    |none=>none
theorem topRun_of{mB:String→Option Builtin}{p:Program}{w:World}{Bm:Nat}{ann:Option Value}:∀{n:Nat} {s s':SharedT} {t:Thread},uR (stepOk Bm ann) (stepT (denote mB) p w) n s t=some s'→topRun mB p w Bm ann n s.abs t=some s'.abs
 |0,_,_,_,h=>by cases h
 |n+1,s,s',t,h=>by
  unfold uR at h
  unfold topRun
  cases bg:through t with
  |true=>rw[bg] at h;cases h;rfl
  |false=>
   rw[bg] at h
   cases aB:stepOk Bm ann t with
   |false=>rw[aB] at h;cases h
   |true=>
    rw[aB] at h
    cases aY:stepT (denote mB) p w s t with
    |none=>rw[aY] at h;cases h
    |some r=>obtain⟨xO,Yn⟩:=r;rw[aY] at h;rw[stepT_spec aY];exact topRun_of h
noncomputable def treeOf:List Obj→Nat→BT→Option BT
 |[],_,t=>some t
 |o::r,n,t=>match((t.ins n o).get n).isSome with
  |true=>treeOf r (n+1) (t.ins n o)
  |false=>none
theorem treeOf_abs{life:Life}:∀{l:List Obj} {n:Nat} {t j1:BT},treeOf l n t=some j1→absHeap j1 (n+l.length) life=⟨(absHeap t n life).objs++l.toArray,life⟩
 |[],n,t,j1,h=>by
  cases h
  show _=Heap.mk _ _
  rw[List.length_nil,Nat.add_zero,Array.append_empty];rfl
 |o::r,n,t,j1,h=>by
  unfold treeOf at h
  cases hi:((t.ins n o).get n).isSome with
  |false=>rw[hi] at h;cases h
  |true=>
   rw[hi] at h
   have:=treeOf_abs (life:=life) h
   rw[show n+1+r.length=n+(o::r).length by rw[List.length_cons];omega] at this
   rw[this,absHeap_ins hi]
   show Heap.mk ((absHeap t n life).objs.push o++r.toArray) _=Heap.mk _ _
   congr 1
   rw[←Array.append_singleton,Array.append_assoc]
   simp
noncomputable def bootT(w:World)(os:OsState):SharedT:=⟨(treeOf (boot_heap w.params).objs.toList 0 .nil).getD .nil,11,(boot_heap w.params).life,#[],boot_drawn,boot_toks,os⟩
theorem boot_ok(P:Params):(treeOf (boot_heap P).objs.toList 0 .nil).isSome=true:=by kernel_rfl
theorem boot_size(P:Params):(boot_heap P).objs.size=11:=by kernel_rfl
theorem bootT_abs(w:World)(os:OsState):(bootT w os).abs=⟨boot_heap w.params,#[],boot_drawn,boot_toks,os⟩:=by
 obtain⟨t,bg⟩:=Option.isSome_iff_exists.mp (boot_ok w.params)
 have h:=treeOf_abs (life:=(boot_heap w.params).life) bg
 have au:0+(boot_heap w.params).objs.toList.length=11:=by rw[Nat.zero_add];exact boot_size w.params
 rw[au] at h
 unfold bootT SharedT.abs
 rw[bg]
 show Shared.mk (absHeap t 11 (boot_heap w.params).life) _ _ _ _=_
 rw[h]
 have:(absHeap .nil 0 (boot_heap w.params).life).objs= #[]:=rfl
 rw[this]
 simp
theorem left_gen{p q:Program}{loose:List Str}{Xt:Shared→Bool}{α:Type}{Dd:Shared→α}{sT:World→α}{N Hj:Nat}{jG:Params→Heap}{d:Drawn}{k:Nat}{T:World→OsState→SharedT}
 (az:∀w:World,(fencedOpening treeTable p w N).map (fun s=>(s.heap,s.gens,s.drawn,s.toks))=some (jG w.params,Array.mk [],d,k))
 (c_:∀w os,(T w os).abs=⟨jG w.params,Array.mk [],d,k,os⟩) (nh:∀P,(jG P).isNs mainGlobals=true) (iW:∀P,(jG P).objs.size=Hj)
 (h:∀(w:World) (os:OsState),(uR (stepOk Hj ((jG w.params).nsMap mainGlobals "__annotations__")) (stepT (denote treeTable) p w) N (T w os) (topStub p)).map (fun s=>(staticsOk (importedModules p.main.body) (jG w.params) s.abs.heap&&namesBound p s.abs.heap&&gensDone s.abs&&laidKept (jG w.params) s.abs.heap,openSeen q loose (importedModules p.main.body) Xt true s.abs,Dd s.abs))=some (true,openGood q loose,sT w)):
 LeftO p q loose Xt Dd sT N:=by
 intro w
 obtain⟨Ko,aJ,ak⟩:=Option.map_eq_some_iff.mp (az w)
 obtain⟨aH,fL,ku,bt,os⟩:=Ko
 simp only[Prod.mk.injEq] at ak
 obtain⟨rfl,rfl,rfl,rfl⟩:=ak
 obtain⟨s,bW,fJ⟩:=Option.map_eq_some_iff.mp (h w os)
 have ll:=topRun_of bW
 rw[c_] at ll
 obtain⟨k1,k2⟩:=Prod.mk.inj fJ
 obtain⟨k2,k3⟩:=Prod.mk.inj k2
 have y4:topFrom treeTable p w N ⟨jG w.params,Array.mk [],ku,bt,os⟩=some s.abs:=by
  unfold topFrom
  have b6:((jG w.params).isNs mainGlobals&&(Array.mk []:Array GenState).size==0)=true:=by rw[nh];rfl
  show(match((jG w.params).isNs mainGlobals&&(Array.mk []:Array GenState).size==0)with|true=>_|false=>_)=_
  rw[b6]
  show(topRun treeTable p w (jG w.params).objs.size _ N _ _).bind _=_
  rw[iW,ll]
  show(match(staticsOk (importedModules p.main.body) (jG w.params) s.abs.heap&&namesBound p s.abs.heap&&gensDone s.abs&&laidKept (jG w.params) s.abs.heap)with|true=>some s.abs|false=>none)=_
  rw[k1]
 unfold openEnds
 rw[aJ,Option.bind_some,y4,Option.map_some,k2,k3]
noncomputable def wi(s:SharedT)(a:Nat):Option Obj:=match Nat.blt a s.n with
 |true=>alive ((s.tree.get a).getD default)
 |false=>none
theorem PH(s:SharedT)(a:Nat):wi s a=s.abs.heap.get? a:=by
 show wi s a=(absHeap s.tree s.n s.life).get? a
 unfold wi
 cases h:Nat.blt a s.n with
 |true=>
  have h:a<s.n:=Nat.le_of_ble_eq_true h
  unfold Heap.get?
  rw[absHeap_at,if_pos h]
  obtain⟨c,d,y3,f3⟩:=(s.tree.get a).getD default
  cases y3<;>rfl
 |false=>
  refine(abs_get_none fun q=> ?_).symm
  rw[show Nat.blt a s.n=true from Nat.ble_eq_true_of_le q] at h
  cases h
theorem left_of{q:Program}{loose:List Str}{Xt:Shared→Bool}{as:List Addr}{sT:World→List (Option Obj)}
 (h:∀(w:World) (os:OsState),(uR (PySem.W.Fast.tw6613529449190102663 11 ((boot_heap w.params).nsMap mainGlobals "__annotations__")) (PySem.W.Fast.tw10156331382660048174 (PySem.W.Fast.tw11892475500146522536 PySem.W.Fast.tw14364793385576792824) pw w) 10084 (bootT w os) (topStub pw)).map (fun s=>(staticsOk (importedModules pw.main.body) (boot_heap w.params) s.abs.heap&&namesBound pw s.abs.heap&&gensDone s.abs&&laidKept (boot_heap w.params) s.abs.heap,PySem.W.Fast.tw4187177175401517315 q loose (importedModules pw.main.body) Xt true s.abs,as.map (wi s)))=some (true,openGood q loose,sT w)):
 LeftO pw q loose Xt (fun s=>as.map s.heap.get?) sT 10084:=
 left_gen (boot_open (by kernel_rfl) (by decide) (fun s=>by kernel_rfl)) bootT_abs (fun P=>by kernel_rfl) boot_size fun w os=>by
  rw[←h w os,PySem.W.Fast.te6613529449190102663,PySem.W.Fast.te10156331382660048174,PySem.W.Fast.te11892475500146522536,PySem.W.Fast.te14364793385576792824,PySem.W.Fast.te4187177175401517315]
  congr 1
  funext s
  rw[List.map_congr_left fun a _=>PH s a]
noncomputable def qv:Program:={pw with main:={pw.main with body:=pw.main.body.drop 79}}
noncomputable def lz:List Str:=pw.boundNames.filter fun x=>x !="law"
noncomputable abbrev tG:=PySem.Challenge.rw_nt0075_01
section
local macro_rules | `(tactic| o_head $H:term) => `(tactic| assumption)
theorem hd(h:PySem.Challenge.rw_nt0075_01.row.Holds):PySem.Challenge.rw_nt0075_01.row.Holds:=by k_head
end
theorem P1:sreFenced pw.main=true:=by kernel_rfl
theorem P2:((moduleNames pw.main.body).isEmpty||lookedIntoSs (moduleNames pw.main.body) pw.main.body)=true:=by rw[PySem.W.Fast.te12862048085361865435];kernel_rfl
theorem P3:namesResolve pw=true:=by kernel_rfl
theorem P4:pw.boundNames.all (fun n=> !worldNames.contains n)=true:=by kernel_rfl
theorem P5:noRoadLSs {strict:= !(importedModules pw.main.body).all cThrough.contains,foot:=none,bare:=(["vars","dir","locals"]:List Str).filter (readsOut pw pw.main.body)} pw.main.body=true:=by kernel_rfl
theorem P6:(namesMeet pw pw.main.body fun _ n=>attrL n)=true:=by kernel_rfl
theorem P9:tG.row.partSaid=true:=by
 unfold OpenRow.partSaid
 rw[show looksOpen tG.row.prog=true from look_both (look_both (look_both (look_both (look_both P1 P2) P3) P4) P5) P6]
 kernel_rfl
theorem Qa:tG.wellSaid=true:=by
 unfold OpenLaw.wellSaid OpenRow.wellSaid
 rw[P9]
 kernel_rfl
theorem P8:(chainsOk qv&&opensWell pw&&(frees tG.row.toRowW&&tG.row.within.isEmpty))=true:=by kernel_rfl
theorem Qd:PySem.Challenge.rw_nt0075_01.row.toRowW.promised:=by w_witness2
theorem PO:pw.bare:=⟨rfl,rfl,rfl,rfl,rfl,by decide+kernel⟩
noncomputable def Ff(P:Params):List Addr:=(hd.heap_1 P).map (·.1)
theorem P_(P:Params):LeftO pw qv lz (fun _=>true) (fun s=>(Ff P).map s.heap.get?) (fun w=>(hd.heap_1 w.params).map fun p=>some p.2) 10084:=left_of fun w os=>by kernel_rfl
theorem PN(P:Params):∀yp,Ff P=(hd.heap_1 yp).map (·.1):=fun yp=>by kernel_rfl
noncomputable def Fn:Params:={strHash:=fun _=>0,shareClass:=fun _=>0,mergeTok:=id,idOf:=fun _=>0,idOfShared:=fun _ _=>0,followText:=fun _=>false,idOfImm:=fun _=>0}
theorem BE{M:Model}{kY:Ctx}{p:Pos}{t:Sem Fin}{bX:List Frame}{s s':Shared}{e:End}(h:Runs M kY p t bX s e s'):s.heap.objs.size≤s'.heap.objs.size:=by
 induction h<;>(try simp only[Shared.setGen,Heap.size_push,Heap.size_after_update] at*)<;>omega
theorem U_{M:Model}{kY:Ctx}{p:Pos}{s s':Shared}{r:Result}(h:Returns M kY p s r s'):s.heap.objs.size≤s'.heap.objs.size:=BE h
theorem Xo{M:Model}{kY:Ctx}{p:Pos}{g:Nat}{r:Resume}{s s':Shared}{res:GenResult}(h:Wakes M kY p g r s res s'):s.heap.objs.size≤s'.heap.objs.size:=by
 unfold Wakes at h
 split at h
 ·exact h.elim
 ·split at h
  ·obtain⟨Oz,hQ,aZ,_,_,rfl⟩:=h;exact(BE aZ:(s.setGen g .running).heap.objs.size≤hQ.heap.objs.size)
  ·rw[h.2];exact Nat.le_refl _
  ·rw[h.2];exact Nat.le_refl _
 ·obtain⟨Oz,hQ,aZ,_,_,rfl⟩:=h;exact(BE aZ:(s.setGen g .running).heap.objs.size≤hQ.heap.objs.size)
 ·rw[h.2];exact Nat.le_refl _
 ·rw[h.2];exact Nat.le_refl _
theorem XF{α:Type}(M:Model)(kY:Ctx)(n:Nat)(t:Sem α):∀(Q:α→Pos→Shared→Prop) (E:Value→Pos→Shared→Prop) (p:Pos) (s:Shared),n≤s.heap.objs.size→Sem.wp M kY t Q E p s→
 Sem.wp M kY t (fun a i3 s'=>n≤s'.heap.objs.size∧Q a i3 s') (fun e i3 s'=>n≤s'.heap.objs.size∧E e i3 s') p s:=by
 induction t with
 |pure a=>intro Q E p s aD h;exact⟨aD,h⟩
 |raise e=>intro Q E p s aD h;exact⟨aD,h⟩
 |unsupported _=>intro Q E p s _ h;exact h
 |finish _=>intro Q E p s _ h;exact h
 |rule _ k aK=>intro Q E p s aD h;exact aK () Q E p s aD h
 |«at» i3 k aK=>intro Q E p s aD h;exact aK () Q E i3 s aD h
 |load a _ k aK=>intro Q E p s aD h;obtain⟨o,aT,h⟩:=h;exact⟨o,aT,aK o Q E p s aD h⟩
 |update a _ f k aK=>intro Q E p s aD h;exact⟨h.1,aK () Q E p _ (by show n≤(s.heap.update a f).objs.size;rw[Heap.size_after_update];exact aD) h.2⟩
 |loadIfAlive a k aK=>intro Q E p s aD h;exact aK _ Q E p s aD h
 |point _ k aK=>intro Q E p s aD h;exact aK () Q E p s aD h
 |register _ _=>intro Q E p s _ h;exact h
 |alloc o k aK=>intro Q E p s aD h;exact aK _ Q E p _ (by show n≤(s.heap.push o).objs.size;rw[Heap.size_push];omega) h
 |fresh k aK=>intro Q E p s aD h;exact aK _ Q E p _ aD h
 |ask k aK=>intro Q E p s aD h;exact aK _ Q E p s aD h
 |choose src m k aK=>intro Q E p s aD h;exact⟨h.1,aK _ Q E p _ aD h.2⟩
 |os q _ k aK=>intro Q E p s aD h;exact aK _ Q E p _ aD h
 |call c hd _ _ k aK=>intro Q E p s aD h;obtain⟨r,s',aZ,h⟩:=h;exact⟨r,s',aZ,aK r Q E p s' (Nat.le_trans aD (U_ aZ)) h⟩
 |handled own k aK=>intro Q E p s aD h;exact aK _ Q E p s aD h
 |genState g k aK=>intro Q E p s aD h;obtain⟨st,aY,h⟩:=h;exact⟨st,aY,aK _ Q E p s aD h⟩
 |newGen c k aK=>intro Q E p s aD h;exact aK _ Q E p _ aD h
 |resume g r _ k aK=>intro Q E p s aD h;obtain⟨res,s',hw,h⟩:=h;exact⟨res,s',hw,aK res Q E p s' (Nat.le_trans aD (Xo hw)) h⟩
 |yield _ _ _ _=>intro Q E p s _ h;exact h
 |stack k aK=>intro Q E p s aD h;exact aK _ Q E p s aD h
 |fork _ _=>intro Q E p s _ h;exact h
 |thread k aK=>intro Q E p s aD h;exact aK _ Q E p s aD h
 |await _ _ _ _ _=>intro Q E p s _ h;exact h
theorem i'{α:Type}{M:Model}{A:Around}{s:Shared}{t:Sem α}{Q:α→Shared→Prop}{E:Value→Shared→Prop}
 (h:wpAny M A t (fun a s'=>s.heap.objs.size≤s'.heap.objs.size→Q a s') E s):wpAny M A t Q E s:=
 fun kY p RC=>Sem.wp_mono M kY t (fun _ _ _ x=>x.2 x.1) (fun _ _ _ x=>x.2) p s (XF M kY _ t _ _ p s (Nat.le_refl _) (h kY p RC))
section
variable{prog:Program}{w:World}
noncomputable abbrev Yi(prog:Program)(w:World):PySem.HeapKind prog w (List Int):=tupleKind (PySem.intKind prog w)
inductive h8(prog:Program)(w:World)(h:Heap):List (List Int)→List Value→Prop
 |nil:h8 prog w h [] []
 |cons {k:List Int} {b:Addr} {ks:List (List Int)} {vs:List Value}:IsTupleKey (PySem.intKind prog w) h k b→h8 prog w h ks vs→h8 prog w h (k::ks) (.ref b::vs)
noncomputable def im(prog:Program)(w:World)(h:Heap)(ks:List (List Int))(a:Addr):Prop:=∃o items n,h.get? a=some o∧o.cls= .type "tuple"∧o.data= .seq items n∧h8 prog w h ks items.toList
theorem h8.inj{h:Heap}{x y:List (List Int)}{vs:List Value}(af:h8 prog w h x vs)(aQ:h8 prog w h y vs):x=y:=by
 induction af generalizing y with
 |nil=>cases aQ;rfl
 |cons ag _ aK=>
  cases aQ with
  |cons ah gL=>rw[ag.inj ah,aK gL]
theorem h8.mono{h ax:Heap}{x:List (List Int)}{vs:List Value}(af:h8 prog w h x vs)(aB:∀k a,IsTupleKey (PySem.intKind prog w) h k a→IsTupleKey (PySem.intKind prog w) ax k a):h8 prog w ax x vs:=by
 induction af with
 |nil=>exact .nil
 |cons ag _ aK=>exact .cons (aB _ _ ag) aK
theorem im.typeIs{s:Shared}{ks:List (List Int)}{a:Addr}(x:im prog w s.heap ks a):s.TypeIs (.ref a) "tuple":=let⟨o,_,_,aT,aU,_⟩:=x;⟨o,aT,aU⟩
theorem im.inj{h:Heap}{a:Addr}{x y:List (List Int)}(af:im prog w h x a)(aQ:im prog w h y a):x=y:=by
 obtain⟨o,items,n,aT,_,hd,hi⟩:=af
 obtain⟨cF,X9,fP,ek,_,e7,kz⟩:=aQ
 obtain rfl:o=cF:=Option.some.inj (aT.symm.trans ek)
 rw[hd] at e7
 injection e7 with ag _
 subst ag
 exact hi.inj kz
theorem im.keeps{h ax:Heap}{ks:List (List Int)}{a d:Addr}{o:Obj}{av ep}(x:im prog w h ks a)(aT:h.get? d=some o)(hd:o.data= .dict av ep)(aY:Heap.SameBut d h ax):im prog w ax ks a:=by
 obtain⟨cF,items,n,ek,aU,e7,hi⟩:=x
 have dB:a≠d:=by
  rintro rfl
  obtain rfl:cF=o:=Option.some.inj (ek.symm.trans aT)
  rw[hd] at e7;exact nomatch e7
 exact⟨cF,items,n,(aY.2 a dB).trans ek,aU,e7,hi.mono fun k a x=>x.keeps aT hd aY⟩
noncomputable def BD(prog:Program)(w:World)(ks:List (List Int)):Int:=reduceHash (Builtin.Tuple.tupleHashOf (ks.map (tupleKeyHash (PySem.intKind prog w))))
noncomputable def BC(ks:List (List Int)):Nat:=(ks.map fun k=>k.length+1).sum+1
variable{A:Around}{E:Value→Shared→Prop}{s:Shared}
theorem XE{ks:List (List Int)}{a:Addr}{Q:Int→Shared→Prop}(bR:A.units+2<cLine)(aB:im prog w s.heap ks a)(h:Q (BD prog w ks) {s with toks:=s.toks+BC ks}):
 wpAny (model prog w) A (pyHash (.ref a)) Q E s:=by
 have c_:=aB.typeIs
 obtain⟨o,items,n,aT,_,hd,hi⟩:=aB
 unfold pyHash
 unfold pyHashByItsType
 refine wpAny_bind (wpAny_cRoomFor_or (.inr (by omega)) ?_)
 refine wpAny_bind (wpAny_specialOf c_ F.slot_tuple_hash.lookup ?_)
 show wpAny _ _ (if(some (Value.builtin "tuple.__hash__")==some Value.none)=true then _ else _) Q E s
 rw[if_neg (by rw[beq_builtin_none];exact Bool.false_ne_true)]
 refine wpAny_bind (wpAny_specialOf c_ F.slot_tuple_hash.lookup ?_)
 show wpAny _ _ (callSpecialIfBoundUnlessNone? (.ref a) "__hash__" _>>=_) Q E s
 refine wpAny_bind (wpAny_callSpecialIfBoundUnlessNone?_slot c_ F.slot_tuple_hash (wpAny_call_entry F.slot_tuple_hash c_ F.entry_tuple_hash ?_ (F.args_tuple_hash_1 _)))
 show wpAny _ _ (Builtin.Tuple.tupleItemsOf (.ref a)>>=_) _ _ s
 refine wpAny_bind (wpAny_tupleItemsOf aT hd ?_)
 refine wpAny_bind ?_
 rw[←Array.forIn_toList]
 refine wpAny_forIn_list _
  (fun rest (b:Array Int) s'=>∃done left,ks=done++left∧h8 prog w s.heap left rest∧b.toList=done.map (tupleKeyHash (PySem.intKind prog w))∧s'={s with toks:=s.toks+(done.map fun k=>k.length+1).sum})
  _ ?_ ?_ _ _ ⟨[],ks,rfl,hi,rfl,rfl⟩
 ·rintro x rest b s' ⟨done,left,rfl,au,az,rfl⟩
  cases au with
  | @cons k _ AE _ ag lx=>
   refine wpAny_bind (wpAny_pyHash_tuple (knd:=PySem.intKind prog w) (s:={s with toks:=s.toks+(done.map fun k=>k.length+1).sum}) (by simp only[Around.in1_units];omega) ag ?_)
   first
    |exact wpAny_pure ⟨done++[k],AE,by simp,lx,by simp[az],by simp[Nat.add_assoc]⟩
    |exact wpAny_bind (wpAny_pure (wpAny_pure ⟨done++[k],AE,by simp,lx,by simp[az],by simp[Nat.add_assoc]⟩))
 ·rintro b s' ⟨done,left,rfl,au,az,rfl⟩
  cases au
  rw[List.append_nil] at h
  show wpAny _ _ (retInt (Builtin.Tuple.tupleHashOf b.toList)) _ _ _
  rw[az]
  refine wpAny_ret_mkInt ?_
  show wpAny _ _ (if(decide (-(2:Int)^63≤Builtin.Tuple.tupleHashOf (done.map (tupleKeyHash (PySem.intKind prog w))))&&decide (Builtin.Tuple.tupleHashOf (done.map (tupleKeyHash (PySem.intKind prog w)))<2^63))=true then _ else _) Q E _
  unfold BD reduceHash BC at h
  by_cases aZ:(decide (-(2:Int)^63≤Builtin.Tuple.tupleHashOf (done.map (tupleKeyHash (PySem.intKind prog w))))&&decide (Builtin.Tuple.tupleHashOf (done.map (tupleKeyHash (PySem.intKind prog w)))<2^63))=true
  ·rw[if_pos aZ]
   rw[if_pos aZ] at h
   exact wpAny_pure (by simpa [Nat.add_assoc]using h)
  ·rw[if_neg aZ]
   rw[if_neg aZ] at h
   exact wpAny_bind (wpAny_rule (wpAny_pure (by simpa [Nat.add_assoc]using h)))
theorem Vg{x y:List (List Int)}{a b:Addr}{P:Fin→Shared→Prop}(bR:A.units<cLine)(af:im prog w s.heap x a)(aQ:im prog w s.heap y b)(h:P (.done (.ret (.bool (decide (x=y))))) s):
 wpAny (model prog w) A (Builtin.«tuple.__eq__» ⟨[.ref a, .ref b],[]⟩) P E s:=by
 have Qb:=aQ.typeIs
 obtain⟨Ye,xs,na,Q5,_,Qw,QN⟩:=af
 obtain⟨Yg,ci,nb,Q6,_,Qx,QO⟩:=aQ
 have len:∀{x:List (List Int)} {vs:List Value},h8 prog w s.heap x vs→x.length=vs.length:=by
  intro x vs h
  induction h with
  |nil=>rfl
  |cons _ _ aK=>simp[aK]
 show wpAny _ _ (isInstance (.ref b) (.type "tuple")>>=_) _ _ s
 refine wpAny_bind (wpAny_isInstance Qb isSubtype_tuple_tuple ?_)
 simp only[Bool.not_true,Bool.false_eq_true,if_false]
 refine wpAny_bind (wpAny_tupleItemsOf Q5 Qw ?_)
 refine wpAny_bind (wpAny_tupleItemsOf Q6 Qx ?_)
 refine wpAny_bind ?_
 refine wpAny_forIn_list _
  (fun rest r s'=>r.1=none∧s'=s∧∃jA x3 uX uZ,rest=List.zip uX uZ∧h8 prog w s.heap jA uX∧h8 prog w s.heap x3 uZ∧decide (jA=x3)=decide (x=y)∧(uX.length==uZ.length)=(xs.size==ci.size))
  _ ?_ ?_ _ _ ⟨rfl,rfl,x,y,xs.toList,ci.toList,rfl,QN,QO,rfl,by simp⟩
 ·rintro⟨u,v⟩ rest r s' ⟨aZ,rfl,jA,x3,uX,uZ,hz,p0,wL,wt,hlen⟩
  cases p0 with
  |nil=>simp at hz
  | @cons k1 fG K9 XH ag Rs=>
   cases wL with
   |nil=>simp at hz
   | @cons k2 gv Ld XI ah Ru=>
    simp only[List.zip_cons_cons,List.cons.injEq,Prod.mk.injEq] at hz
    obtain⟨⟨rfl,rfl⟩,rfl⟩:=hz
    refine wpAny_bind (wpAny_eqBool_tuple (x:=k1) (y:=k2) bR ag ah ?_)
    by_cases aB:k1=k2
    ·subst aB
     rw[decide_eq_true rfl]
     simp only[Bool.not_true,Bool.false_eq_true,if_false]
     refine wpAny_pure ⟨rfl,rfl,K9,Ld,XH,XI,rfl,Rs,Ru,?_,by simpa using hlen⟩
     rw[←wt]
     by_cases t2:K9=Ld
     ·simp[t2]
     ·simp[t2]
    ·rw[decide_eq_false aB]
     simp only[Bool.not_false,if_true]
     have hf:decide (x=y)=false:=by rw[←wt];simp[aB]
     rw[hf] at h
     exact wpAny_bind (wpAny_pure (wpAny_pure (wpAny_pure h)))
 ·rintro⟨bl,bN⟩ s' ⟨aZ,rfl,jA,x3,uX,uZ,hz,p0,wL,wt,hlen⟩
  simp only at aZ
  subst aZ
  refine wpAny_pure ?_
  have QE:(xs.size==ci.size)=decide (x=y):=by
   rw[←wt,←hlen]
   cases p0 with
   |nil=>
    cases wL with
    |nil=>simp
    |cons _ _=>simp
   |cons _ _=>
    cases wL with
    |nil=>simp
    |cons _ _=>simp at hz
  show P (.done (.ret (.bool (xs.size==ci.size)))) s'
  rw[QE];exact h
theorem XC{x y:List (List Int)}{a b:Addr}{Q:Bool→Shared→Prop}(bR:A.units+2<cLine)(af:im prog w s.heap x a)(aQ:im prog w s.heap y b)(h:Q (decide (x=y)) s):
 wpAny (model prog w) A (eqBool (.ref a) (.ref b)) Q E s:=by
 unfold eqBool
 try with_reducible refine wpAny_holding ?_
 show wpAny _ _ (if(Value.ref a==Value.ref b)=true then _ else _) Q E s
 by_cases rt:(Value.ref a==Value.ref b)=true
 ·rw[if_pos rt]
  have e:a=b:=by have:=eq_of_beq rt;injection this
  subst e
  obtain rfl:=af.inj aQ
  exact wpAny_bind (wpAny_rule (wpAny_pure (by simpa using h)))
 ·rw[if_neg rt]
  exact wpAny_bind (wpAny_richCompare_same_room (op:= .Eq) af.typeIs aQ.typeIs F.slot_tuple_eq
   (wpAny_call_entry F.slot_tuple_eq af.typeIs F.entry_tuple_eq (Vg (by simp only[Around.in1_units];omega) af aQ ⟨_,rfl,(fun e=>nomatch e),wpAny_truthy_bool h⟩) (F.args_tuple_eq_2 _ _)) (by omega))
theorem UR(n:Nat){K:Type} [DecidableEq K]{knd:PySem.KeyKind prog w K}{ks:List K}{a:Addr}{Q:Bool→Shared→Prop}(aB:IsTupleKey knd s.heap ks a)(h:Q true s):wpAny (model prog w) A (eqIsQuiet (n+1) (.ref a)) Q E s:=by
 have c_:=aB.typeIs
 obtain⟨o,items,fP,aT,_,hd,hi⟩:=aB
 unfold eqIsQuiet
 refine wpAny_bind (wpAny_specialOf c_ F.slot_tuple_eq.lookup ?_)
 show wpAny _ _ (isInstance (.ref a) (.type "tuple")>>=_) _ _ s
 refine wpAny_bind (wpAny_isInstance c_ isSubtype_tuple_tuple ?_)
 simp only[Bool.not_true,Bool.false_eq_true,if_false]
 refine wpAny_bind (wpAny_seqItems aT hd ?_)
 refine wpAny_bind ?_
 show wpAny _ _ (forIn items _ _) _ _ s
 rw[←Array.forIn_toList]
 refine wpAny_forIn_list _ (fun rest r s'=>r.1=none∧s'=s∧∀v∈rest,carriedByValue v=true) _ ?_ ?_ _ _ ⟨rfl,rfl,hi.byValue⟩
 ·rintro v rest r s' ⟨aZ,rfl,m_⟩
  rw[eqIsQuiet_byValue _ (m_ v List.mem_cons_self)]
  refine wpAny_bind (wpAny_pure ?_)
  simp only[Bool.not_true,Bool.false_eq_true,if_false]
  exact wpAny_pure ⟨rfl,rfl,fun u Rr=>m_ u (List.mem_cons_of_mem _ Rr)⟩
 ·rintro⟨bl,bN⟩ s' ⟨aZ,rfl,_⟩
  simp only at aZ
  subst aZ
  exact wpAny_pure h
theorem XD{ks:List (List Int)}{a:Addr}{Q:Bool→Shared→Prop}(aB:im prog w s.heap ks a)(h:Q true s):wpAny (model prog w) A (eqIsQuiet 8 (.ref a)) Q E s:=by
 have c_:=aB.typeIs
 obtain⟨o,items,n,aT,_,hd,hi⟩:=aB
 unfold eqIsQuiet
 refine wpAny_bind (wpAny_specialOf c_ F.slot_tuple_eq.lookup ?_)
 show wpAny _ _ (isInstance (.ref a) (.type "tuple")>>=_) _ _ s
 refine wpAny_bind (wpAny_isInstance c_ isSubtype_tuple_tuple ?_)
 simp only[Bool.not_true,Bool.false_eq_true,if_false]
 refine wpAny_bind (wpAny_seqItems aT hd ?_)
 refine wpAny_bind ?_
 show wpAny _ _ (forIn items _ _) _ _ s
 rw[←Array.forIn_toList]
 refine wpAny_forIn_list _ (fun rest r s'=>r.1=none∧s'=s∧∃ks,h8 prog w s.heap ks rest) _ ?_ ?_ _ _ ⟨rfl,rfl,ks,hi⟩
 ·rintro v rest r s' ⟨aZ,rfl,ks,m_⟩
  cases m_ with
  |cons ag ah=>
   refine wpAny_bind (UR 6 ag ?_)
   simp only[Bool.not_true,Bool.false_eq_true,if_false]
   exact wpAny_pure ⟨rfl,rfl,_,ah⟩
 ·rintro⟨bl,bN⟩ s' ⟨aZ,rfl,_⟩
  simp only at aZ
  subst aZ
  exact wpAny_pure h
end
noncomputable def Vf(prog:Program)(w:World):PySem.HeapKind prog w (List (List Int))where
 is:=im prog w
 hash:=BD prog w
 draws:=BC
 room:=fun A=>A.units+2<cLine
 inj:=fun af aQ=>af.inj aQ
 keeps:=fun x aT hd aY=>x.keeps aT hd aY
 pyHash:=fun bR aB h=>XE bR aB h
 eqBool:=fun bR af aQ h=>XC bR af aQ h
 quiet:=fun aB h=>XD aB h
theorem cn{α:Type}{r:α}{G:Prop}(h:none=some r):G:=nomatch h
theorem bQ{α β:Type}{o:Option α}{K:α→Option β}{r:β}{G:Prop}(d:o.bind K=some r)(k:∀a,o=some a→K a=some r→G):G:=by
 cases o with
 |none=>exact cn d
 |some a=>exact k a rfl d
theorem dq{α β:Type}{o:Option α}{K:α→β}{r:β}{G:Prop}(d:o.map K=some r)(k:∀a,o=some a→r=K a→G):G:=by
 cases o with
 |none=>exact cn d
 |some a=>exact k a rfl (Option.some.inj d).symm
theorem c3{α:Type}{p:Prop} [Decidable p]{o:Option α}{r:α}{G:Prop}(d:(if p then o else none)=some r)(k:p→o=some r→G):G:=by
 by_cases h:p
 ·exact k h (by rw[if_pos h] at d;exact d)
 ·rw[if_neg h] at d;exact cn d
inductive V where
 |none
 |bool (b:Bool)
 |int (i:Int)
 |str (s:Str)
 |tup (xs:List V)
 |loc (l:Nat)
 |ins (C l:Nat)
 |st (v:Value)
 deriving Inhabited
inductive aM where
 |list (xs:List V)
 |aS (av:List (Str×V))
 |eI (av:List (Int×V))
 |gd (av:List (List Str×V))
 |gI (av:List (List (List Int)×V))
noncomputable abbrev ao:=List aM
noncomputable abbrev aN:=Nat→Option V
mutual
noncomputable def aC(h:Heap)(J:List Addr):V→Value→Prop
 | .none,w=>w= .none
 | .bool b,w=>w= .bool b
 | .int i,w=>∃t,w= .int i t
 | .str x,w=>∃t,w= .str x t
 | .tup xs,w=>∃a vs n,w= .ref a∧h.get? a=some ⟨.type "tuple",none, .seq vs.toArray n,#[]⟩∧bL h J xs vs
 | .loc l,w=>∃a,w= .ref a∧J[l]?=some a
 | .ins C l,w=>∃a bv,w= .ref a∧h.get? a=some (instObj C bv)∧J[l]?=some bv
 | .st v,w=>w=v
noncomputable def bL(h:Heap)(J:List Addr):List V→List Value→Prop
 |[],ws=>ws=[]
 |x::xs,ws=>∃w r,ws=w::r∧aC h J x w∧bL h J xs r
end
noncomputable def fi(o:Obj):Prop:=(o.cls= .type "tuple"∧∃vs n,o.data= .seq vs n)∨o.data= .plain
mutual
theorem aC.mono{h ax:Heap}{J aw:List Addr}(hf:∀a o,h.get? a=some o→fi o→ax.get? a=some o)(aZ:∀(l:Nat) (a:Addr),J[l]?=some a→aw[l]?=some a):
 ∀(x:V) {w:Value},aC h J x w→aC ax aw x w
 | .none,_,q=>by rw[aC] at*;exact q
 | .bool _,_,q=>by rw[aC] at*;exact q
 | .int _,_,q=>by rw[aC] at*;exact q
 | .str _,_,q=>by rw[aC] at*;exact q
 | .tup xs,_,q=>by
  rw[aC] at*
  obtain⟨a,vs,n,e,aT,r⟩:=q
  exact⟨a,vs,n,e,hf _ _ aT (.inl ⟨rfl,_,_,rfl⟩),bL.mono hf aZ xs r⟩
 | .loc l,_,q=>by
  rw[aC] at*
  obtain⟨a,e,aP⟩:=q
  exact⟨a,e,aZ _ _ aP⟩
 | .ins C l,_,q=>by
  rw[aC] at*
  obtain⟨a,bv,e,aT,aP⟩:=q
  exact⟨a,bv,e,hf _ _ aT (.inr rfl),aZ _ _ aP⟩
 | .st v,_,q=>by rw[aC] at*;exact q
theorem bL.mono{h ax:Heap}{J aw:List Addr}(hf:∀a o,h.get? a=some o→fi o→ax.get? a=some o)(aZ:∀(l:Nat) (a:Addr),J[l]?=some a→aw[l]?=some a):
 ∀(xs:List V) {ws:List Value},bL h J xs ws→bL ax aw xs ws
 |[],_,q=>by rw[bL] at*;exact q
 |x::xs,_,q=>by
  rw[bL] at*
  obtain⟨w,r,e,a,b⟩:=q
  exact⟨w,r,e,aC.mono hf aZ x a,bL.mono hf aZ xs b⟩
end
theorem bL.length{h:Heap}{J:List Addr}:∀{xs:List V} {ws:List Value},bL h J xs ws→xs.length=ws.length
 |[],_,q=>by rw[bL] at q;subst q;rfl
 |x::xs,_,q=>by
  rw[bL] at q
  obtain⟨w,r,rfl,_,b⟩:=q
  simp[bL.length b]
theorem bL.get{h:Heap}{J:List Addr}:∀{xs:List V} {ws:List Value},bL h J xs ws→∀{i:Nat} {x:V},xs[i]?=some x→∃w,ws[i]?=some w∧aC h J x w
 |[],_,_,_,_,e=>by simp at e
 |y::xs,_,q,i,x,e=>by
  rw[bL] at q
  obtain⟨w,r,rfl,a,b⟩:=q
  cases i with
  |zero=>simp at e;subst e;exact⟨w,rfl,a⟩
  |succ i=>simp at e;simpa using b.get e
theorem bL.append{h:Heap}{J:List Addr}:∀{xs ci:List V} {ws us:List Value},bL h J xs ws→bL h J ci us→bL h J (xs++ci) (ws++us)
 |[],_,_,_,q,r=>by rw[bL] at q;subst q;exact r
 |y::xs,_,_,_,q,r=>by
  rw[bL] at q
  obtain⟨w,t,rfl,a,b⟩:=q
  rw[List.cons_append,bL]
  exact⟨w,t++_,rfl,a,b.append r⟩
theorem bL.one{h:Heap}{J:List Addr}{x:V}{w:Value}(a:aC h J x w):bL h J [x] [w]:=by
 rw[bL];exact⟨w,[],rfl,a,by rw[bL]⟩
theorem bL.kO{h:Heap}{J:List Addr}:bL h J [] []:=by rw[bL]
theorem bL.ai{h:Heap}{J:List Addr}{x:V}{w:Value}{xs:List V}{ws:List Value}(a:aC h J x w)(b:bL h J xs ws):bL h J (x::xs) (w::ws):=by
 rw[bL];exact⟨w,ws,rfl,a,b⟩
structure a9 where
 prog:Program
 w:World
 K:Frag
 base:Heap
 ce:Str→Option Value
 ar:Str→Option Value
structure a9.Ok(c:a9):Prop where
 K:c.K.In c.base
 g:c.base.Ns mainGlobals c.ce
 b:c.base.Ns builtinsNs c.ar
 bi:∀x:Str,x≠"__name__"→c.ar x=bootBuiltins x
 nolimit:c.base.NoLimit
 nodigits:∃mc,c.base.Ns cStatics mc∧mc "sys.int_max_str_digits"=none
noncomputable abbrev sK(c:a9):PySem.HeapKind c.prog c.w (List Str):=tupleKind (PySem.strKind c.prog c.w)
noncomputable abbrev qe(c:a9):PySem.HeapKind c.prog c.w (List (List Int)):=Vf c.prog c.w
noncomputable def fl(w:World)(h:Heap)(J:List Addr):List (Str×V)→List DictEntry→Prop
 |[],av=>av=[]
 |(x,v)::ps,av=>∃t u r,av=⟨hashStr w x, .str x t,u⟩::r∧aC h J v u∧fl w h J ps r
noncomputable def ke(h:Heap)(J:List Addr):List (Int×V)→List DictEntry→Prop
 |[],av=>av=[]
 |(x,v)::ps,av=>∃t u r,av=⟨hashInt x, .int x t,u⟩::r∧aC h J v u∧ke h J ps r
noncomputable def iu{prog:Program}{w:World}{K:Type} [DecidableEq K](knd:PySem.HeapKind prog w K)(h:Heap)(J:List Addr):List (K×V)→List DictEntry→Prop
 |[],av=>av=[]
 |(x,v)::ps,av=>∃a u r,av=⟨knd.hash x, .ref a,u⟩::r∧knd.is h x a∧aC h J v u∧iu knd h J ps r
section
variable{w:World}{h ax:Heap}{J aw:List Addr}(hf:∀a o,h.get? a=some o→fi o→ax.get? a=some o)(aZ:∀(l:Nat) (a:Addr),J[l]?=some a→aw[l]?=some a)
include hf aZ
theorem fl.mono:∀{ps:List (Str×V)} {av:List DictEntry},fl w h J ps av→fl w ax aw ps av
 |[],_,q=>q
 |_::_,_,⟨t,u,r,q,a,b⟩=>⟨t,u,r,q,aC.mono hf aZ _ a,fl.mono b⟩
theorem ke.mono:∀{ps:List (Int×V)} {av:List DictEntry},ke h J ps av→ke ax aw ps av
 |[],_,q=>q
 |_::_,_,⟨t,u,r,q,a,b⟩=>⟨t,u,r,q,aC.mono hf aZ _ a,ke.mono b⟩
theorem iu.mono{prog:Program}{w:World}{K:Type} [DecidableEq K]{knd:PySem.HeapKind prog w K}(hi:∀k a,knd.is h k a→knd.is ax k a):∀{ps:List (K×V)} {av:List DictEntry},iu knd h J ps av→iu knd ax aw ps av
 |[],_,q=>q
 |_::_,_,⟨t,u,r,q,k,a,b⟩=>⟨t,u,r,q,hi _ _ k,aC.mono hf aZ _ a,iu.mono hi b⟩
omit aZ in
theorem Vn{c:a9}:∀k a,(sK c).is h k a→(sK c).is ax k a:=fun k a ⟨o,items,n,aT,aU,hd,r⟩=>⟨o,items,n,hf a o aT (.inl ⟨aU,_,_,hd⟩),aU,hd,r⟩
omit aZ in
theorem UY{c:a9}:∀k a,(qe c).is h k a→(qe c).is ax k a:=fun k a ⟨o,items,n,aT,aU,hd,r⟩=>⟨o,items,n,hf a o aT (.inl ⟨aU,_,_,hd⟩),aU,hd,r.mono fun k a ⟨o,items,n,aT,aU,hd,r⟩=>⟨o,items,n,hf a o aT (.inl ⟨aU,_,_,hd⟩),aU,hd,r⟩⟩
end
noncomputable def df(av:List DictEntry)(n:Nat):Obj:=⟨.type "dict",none, .dict av.toArray n,#[]⟩
noncomputable def eR(vs:List Value)(n:Nat):Obj:=⟨.type "list",none, .seq vs.toArray n,#[]⟩
noncomputable def hB(c:a9)(h:Heap)(J:List Addr)(o:Obj):aM→Prop
 | .list xs=>∃vs n,o=eR vs n∧bL h J xs vs
 | .aS ps=>∃av n,o=df av n∧fl c.w h J ps av∧(ps.map (·.1)).Nodup
 | .eI ps=>∃av n,o=df av n∧ke h J ps av∧(ps.map (·.1)).Nodup
 | .gd ps=>∃av n,o=df av n∧iu (sK c) h J ps av∧(ps.map (·.1)).Nodup
 | .gI ps=>∃av n,o=df av n∧iu (qe c) h J ps av∧(ps.map (·.1)).Nodup
theorem hB.mono{c:a9}{h ax:Heap}{J aw:List Addr}(hf:∀a o,h.get? a=some o→fi o→ax.get? a=some o)(aZ:∀(l:Nat) (a:Addr),J[l]?=some a→aw[l]?=some a)
 {o:Obj}:∀{m:aM},hB c h J o m→hB c ax aw o m
 | .list _,⟨vs,n,e,q⟩=>⟨vs,n,e,bL.mono hf aZ _ q⟩
 | .aS _,⟨vs,n,e,q,d⟩=>⟨vs,n,e,fl.mono hf aZ q,d⟩
 | .eI _,⟨vs,n,e,q,d⟩=>⟨vs,n,e,ke.mono hf aZ q,d⟩
 | .gd _,⟨vs,n,e,q,d⟩=>⟨vs,n,e,iu.mono hf aZ (Vn hf) q,d⟩
 | .gI _,⟨vs,n,e,q,d⟩=>⟨vs,n,e,iu.mono hf aZ (UY hf) q,d⟩
noncomputable def qO(o:Obj):Prop:=(∃vs n,o=eR vs n)∨∃av n,o=df av n
theorem hB.mut{c:a9}{h:Heap}{J:List Addr}{o:Obj}:∀{m:aM},hB c h J o m→qO o
 | .list _,⟨vs,n,e,_⟩=> .inl ⟨vs,n,e⟩
 | .aS _,⟨vs,n,e,_⟩=> .inr ⟨vs,n,e⟩
 | .eI _,⟨vs,n,e,_⟩=> .inr ⟨vs,n,e⟩
 | .gd _,⟨vs,n,e,_⟩=> .inr ⟨vs,n,e⟩
 | .gI _,⟨vs,n,e,_⟩=> .inr ⟨vs,n,e⟩
theorem qO.iG{o:Obj}(h:qO o):¬fi o:=by
 rcases h with⟨vs,n,rfl⟩|⟨vs,n,rfl⟩
 ·rintro(⟨h,_⟩|h)
  ·simp[eR] at h
  ·cases h
 ·rintro(⟨h,_⟩|h)
  ·simp[df] at h
  ·cases h
structure aX(c:a9)(J:List Addr)(H:ao)(s:Shared):Prop where
 keep:∀b o,c.base.get? b=some o→s.heap.get? b=some o
 iH:∀a∈J,c.base.objs.size≤a∨(c.base.get? a=none∧(a==sysModules)=false)
 big:c.base.objs.size≤s.heap.objs.size
 bk:J.Nodup
 len:J.length=H.length
 objs:∀(i:Nat) (m:aM),H[i]?=some m→∃a o,J[i]?=some a∧s.heap.get? a=some o∧hB c s.heap J o m
structure Step(own J aw:List Addr)(s s':Shared):Prop where
 ext:∃t,aw=J++t∧∀a∈t,s.heap.objs.size≤a
 ey:∀b o,s.heap.get? b=some o→b∉J→b∉own→s'.heap.get? b=some o
 size:s.heap.objs.size≤s'.heap.objs.size
 gens:s'.gens=s.gens
 os:s'.os=s.os
theorem Step.refl{own J:List Addr}{s:Shared}:Step own J J s s:=⟨⟨[],by simp⟩,fun _ _ e _ _=>e,Nat.le_refl _,rfl,rfl⟩
theorem Step.toks{own J:List Addr}{s:Shared}{t:Nat}:Step own J J s {s with toks:=t}:=⟨⟨[],by simp⟩,fun _ _ e _ _=>e,Nat.le_refl _,rfl,rfl⟩
theorem Step.trans{own J aw gx:List Addr}{s s' fd:Shared}(x:Step own J aw s s')(y:Step own aw gx s' fd):Step own J gx s fd:=by
 obtain⟨t,rfl,bg⟩:=x.ext
 obtain⟨u,rfl,bR⟩:=y.ext
 refine⟨⟨t++u,by simp,fun a aP=> ?_⟩,fun b o e ag ah=> ?_,Nat.le_trans x.size y.size,y.gens.trans x.gens,y.os.trans x.os⟩
 ·rcases List.mem_append.mp aP with q|q
  ·exact bg a q
  ·exact Nat.le_trans x.size (bR a q)
 ·refine y.ey b o (x.ey b o e ag ah) (fun q=> ?_) ah
  rcases List.mem_append.mp q with q|q
  ·exact ag q
  ·exact absurd (Heap.lt_size e) (Nat.not_lt.mpr (bg b q))
theorem Step.weaken{own J aw:List Addr}{s s':Shared}(x:Step [] J aw s s'):Step own J aw s s':=
 ⟨x.ext,fun b o e h _=>x.ey b o e h (by simp),x.size,x.gens,x.os⟩
theorem Step.lk{own J aw:List Addr}{s s':Shared}(x:Step own J aw s s'):∀(l:Nat) (a:Addr),J[l]?=some a→aw[l]?=some a:=by
 obtain⟨t,rfl,_⟩:=x.ext
 intro l a e
 rw[List.getElem?_append_left (List.getElem?_eq_some_iff.mp e).1];exact e
section
variable{c:a9}{J aw:List Addr}{H H':ao}{s s':Shared}
theorem aX.T'(I:aX c J H s){a:Addr}(aP:a∈J):c.base.get? a=none:=by
 cases bC:c.base.get? a with
 |none=>rfl
 |some o=>exact(I.iH a aP).elim (fun h=>absurd (Heap.lt_size bC) (Nat.not_lt.mpr h)) (fun h=>by rw[h.1] at bC;cases bC)
theorem aX.at(I:aX c J H s){a:Addr}(aP:a∈J):∃(i:Nat) (m:aM) (o:Obj),J[i]?=some a∧H[i]?=some m∧s.heap.get? a=some o∧hB c s.heap J o m:=by
 obtain⟨i,hi⟩:=List.getElem?_of_mem aP
 have au:=(List.getElem?_eq_some_iff.mp hi).1
 rw[I.len] at au
 obtain⟨b,o,az,r⟩:=I.objs i H[i] (List.getElem?_eq_getElem au)
 rw[hi] at az;cases az
 exact⟨i,_,o,hi,List.getElem?_eq_getElem au,r⟩
theorem aX.mut(I:aX c J H s){a:Addr}{o:Obj}(aP:a∈J)(e:s.heap.get? a=some o):qO o:=by
 obtain⟨i,m,cF,_,_,h,r⟩:=I.at aP
 rw[h] at e;cases e
 exact r.mut
theorem aX.iG(I:aX c J H s){a:Addr}{o:Obj}(aP:a∈J)(e:s.heap.get? a=some o):¬fi o:=(I.mut aP e).iG
theorem aX.lt(I:aX c J H s){a:Addr}(aP:a∈J):a<s.heap.objs.size:=by
 obtain⟨i,m,o,_,_,h,r⟩:=I.at aP
 exact Heap.lt_size h
theorem aX.ou(I:aX c J H s)(x:Step [] J aw s s'):∀a o,s.heap.get? a=some o→fi o→s'.heap.get? a=some o:=
 fun a o e f=>x.ey a o e (fun h=>I.iG h e f) (by simp)
theorem aC.step(I:aX c J H s)(x:Step [] J aw s s'){v:V}{w:Value}(r:aC s.heap J v w):aC s'.heap aw v w:=aC.mono (I.ou x) x.lk v r
theorem bL.step(I:aX c J H s)(x:Step [] J aw s s'){v:List V}{w:List Value}(r:bL s.heap J v w):bL s'.heap aw v w:=bL.mono (I.ou x) x.lk v r
theorem aX.toks(I:aX c J H s){t:Nat}:aX c J H {s with toks:=t}:=⟨I.keep,I.iH,I.big,I.bk,I.len,I.objs⟩
end
structure cX where
 env:Env
 own:List Addr
noncomputable abbrev a5:=List (Str×NameKind)
structure dw(nm:a5)(fr:cX):Prop where
 kind:fr.env.scope.kind= .function
 globals:fr.env.globals=mainGlobals
 builtins:fr.env.builtins=builtinsNs
 names:fr.env.scope.names.map (·.1)=nm.map (·.1)
 gl:∀x,nm.lookup x=some .globalImplicit→fr.env.kindOf x=some .globalImplicit
 lc:∀x,nm.lookup x=some .local→fr.env.kindOf x=some .local
 s_:∀x,nm.lookup x=some .cell∨nm.lookup x=some .free→fr.env.kindOf x=some .cell∨fr.env.kindOf x=some .free
noncomputable def CF(env:Env)(h:Heap)(m:Str→Option Value)(x:Str)(v:Value):Prop:=
 (env.kindOf x=some .local∧m x=some v)∨((env.kindOf x=some .cell∨env.kindOf x=some .free)∧∃b4,env.cells.lookup x=some b4∧h.IsCell b4 (some v))
noncomputable def nameAt(nm:a5)(i:Nat):Option Str:=(nm[i]?).map (·.1)
structure dm(c:a9)(nm:a5)(fr:cX)(J:List Addr)(σ:aN)(s:Shared):Prop where
 own:∀a∈fr.own,a∉J∧c.base.get? a=none∧∃o,s.heap.get? a=some o∧((∃av n,o.data= .dict av n)∨∃v,o.data= .cell v)
 loc:∃m,s.heap.Ns fr.env.locals m∧fr.env.locals∉J∧∀i v,σ i=some v→∃x gv,nameAt nm i=some x∧CF fr.env s.heap m x gv∧aC s.heap J v gv
theorem Ns.of_get{h ax:Heap}{a:Addr}{m:Str→Option Value}(x:h.Ns a m)(e:∀o,h.get? a=some o→ax.get? a=some o):ax.Ns a m:=
 let⟨o,av,ep,aT,r⟩:=x;⟨o,av,ep,e _ aT,r⟩
theorem IsCell.of_get{h ax:Heap}{a:Addr}{v:Option Value}(x:h.IsCell a v)(e:∀o,h.get? a=some o→ax.get? a=some o):ax.IsCell a v:=
 let⟨o,aT,r⟩:=x;⟨o,e _ aT,r⟩
theorem aX.mf{c:a9}{J:List Addr}{H:ao}{s:Shared}(I:aX c J H s){a:Addr}{v:Option Value}(x:s.heap.IsCell a v):a∉J:=by
 intro aP
 obtain⟨o,aT,hd⟩:=x
 rcases I.mut aP aT with⟨vs,n,rfl⟩|⟨vs,n,rfl⟩<;>cases hd
section
variable{c:a9}{nm:a5}{fr:cX}{J aw:List Addr}{H H':ao}{s s':Shared}{σ:aN}
theorem dm.step(I:aX c J H s)(F:dm c nm fr J σ s)(x:Step [] J aw s s'):dm c nm fr aw σ s':=by
 obtain⟨m,aD,bH,aR⟩:=F.loc
 obtain⟨t,rfl,bg⟩:=x.ext
 have lD:∀a o,s.heap.get? a=some o→a∉J→a∉J++t:=fun a o e h q=>by
  rcases List.mem_append.mp q with q|q
  ·exact h q
  ·exact absurd (Heap.lt_size e) (Nat.not_lt.mpr (bg a q))
 refine⟨fun a aP=> ?_,m,Ns.of_get aD fun o e=>x.ey _ _ e bH (by simp),?_,fun i v e=> ?_⟩
 ·obtain⟨ag,ah,o,aE,a7⟩:=F.own a aP
  exact⟨lD _ _ aE ag,ah,o,x.ey _ _ aE ag (by simp),a7⟩
 ·obtain⟨o,av,ep,aT,_⟩:=aD
  exact lD _ _ aT bH
 ·obtain⟨y,gv,ag,ah,aE⟩:=aR i v e
  refine⟨y,gv,ag,?_,aE.step I x⟩
  rcases ah with ah|⟨ah,b4,a7,cj⟩
  ·exact .inl ah
  ·exact .inr ⟨ah,b4,a7,IsCell.of_get cj fun o e=>x.ey _ _ e (I.mf cj) (by simp)⟩
theorem dm.toks(F:dm c nm fr J σ s){t:Nat}:dm c nm fr J σ {s with toks:=t}:=⟨F.own,F.loc⟩
end
noncomputable def cz(k:Nat)(A:Around):Prop:=A.depth+3*k<990∧A.units+100*k<9800∧A.guards=some []∧(0<k→A.handled=none)
noncomputable abbrev a0:=aN→ao→Option (V×ao)
noncomputable def bA(c:a9)(nm:a5)(k:Nat)(e:Expr)(D:a0):Prop:=
 ∀(fr:cX),dw nm fr→∀(J:List Addr) (σ:aN) (H:ao) (s:Shared),aX c J H s→dm c nm fr J σ s→∀v H',D σ H=some (v,H')→
  ∀(A:Around),cz k A→∀(Q:Value→Shared→Prop) (E:Value→Shared→Prop),
   (∀aw s' w,aX c aw H' s'→Step [] J aw s s'→aC s'.heap aw v w→Q w s')→wpAny (model c.prog c.w) A (eval e fr.env) Q E s
noncomputable def cC{α fg:Type}(D:aN→ao→Option (α×ao))(F:α→aN→ao→Option fg):aN→ao→Option fg:=fun σ H=>(D σ H).bind fun p=>F p.1 σ p.2
noncomputable def gQ{α β fg:Type}(D:aN→ao→Option (α×ao))(R:aN→ao→Option (β×ao))(F:α→β→ao→Option fg):aN→ao→Option fg:=cC D fun x=>cC R fun y _ aG=>F x y aG
section
variable{α β fg su:Type}{D:aN→ao→Option (α×ao)}{R:aN→ao→Option (β×ao)}{σ:aN}{H H':ao}{r:fg}{v:su}{G:Prop}
theorem dp{F:α→aN→ao→Option fg}(d:cC D F σ H=some r)(k:∀x H1,D σ H=some (x,H1)→F x σ H1=some r→G):G:=bQ d fun p h d=>k p.1 p.2 h d
theorem Nf{F:α→β→ao→Option fg}(d:gQ D R F σ H=some r)(k:∀x H1 y aG,D σ H=some (x,H1)→R σ H1=some (y,aG)→F x y aG=some r→G):G:=
 dp d fun x H1 h d=>dp d fun y aG ah d=>k x H1 y aG h ah d
theorem S2{o:Option fg}{g:fg→su}{H1:ao}(d:(o.map fun b=>(g b,H1))=some (v,H'))(k:∀b,H1=H'→o=some b→v=g b→G):G:=
 dq d fun b h e=>k b (congrArg Prod.snd e).symm h (congrArg Prod.fst e)
theorem lK{H1:ao}{u:su}(d:some (u,H1)=some (v,H'))(k:H1=H'→v=u→G):G:=k (congrArg Prod.snd (Option.some.inj d)) (congrArg Prod.fst (Option.some.inj d)).symm
theorem DN{g:α→su}(d:cC D (fun x _ H1=>some (g x,H1)) σ H=some (v,H'))(k:∀x,D σ H=some (x,H')→v=g x→G):G:=
 dp d fun x H1 h d=>lK d fun e ah=>by subst e;exact k x h ah
theorem vL{f:α→ao→Option fg}{g:fg→su}(d:cC D (fun x _ H1=>(f x H1).map fun b=>(g b,H1)) σ H=some (v,H'))(k:∀x b,D σ H=some (x,H')→f x H'=some b→v=g b→G):G:=
 dp d fun x H1 h d=>S2 d fun b e ag ah=>by subst e;exact k x b h ag ah
theorem tc{f:α→β→ao→Option fg}{g:fg→su}(d:gQ D R (fun x y aG=>(f x y aG).map fun b=>(g b,aG)) σ H=some (v,H'))(k:∀x H1 y b,D σ H=some (x,H1)→R σ H1=some (y,H')→f x y H'=some b→v=g b→G):G:=
 dp d fun x H1 h d=>vL d fun y b ag ah aE=>k x H1 y b h ag ah aE
theorem pn{f:α→ao→Option fg}{v:fg}(d:cC D (fun x _ H1=>(f x H1).map (·,H1)) σ H=some (v,H'))(k:∀x,D σ H=some (x,H')→f x H'=some v→G):G:=
 vL d fun x b h ag ah=>k x h (ah▸ag)
theorem DO{f:α→β→ao→Option fg}{v:fg}(d:gQ D R (fun x y aG=>(f x y aG).map (·,aG)) σ H=some (v,H'))(k:∀x H1 y,D σ H=some (x,H1)→R σ H1=some (y,H')→f x y H'=some v→G):G:=
 tc d fun x H1 y b h ag ah aE=>k x H1 y h ag (aE▸ah)
end
noncomputable def lb:V→Option Nat| .loc l=>some l|_=>none
noncomputable def jk:V→Option Int| .int i=>some i|_=>none
noncomputable def km:V→Option Str| .str x=>some x|_=>none
noncomputable def vC:V→Option (List V)| .tup xs=>some xs|_=>none
noncomputable def vB:V→Option (Nat×Nat)| .ins C l=>some (C,l)|_=>none
noncomputable def h_:Option aM→Option (List V)|some (.list xs)=>some xs|_=>none
noncomputable def lW:Option aM→Option (List (Str×V))|some (.aS ps)=>some ps|_=>none
section
variable{v:V}{o:Option aM}
theorem mZ{l:Nat}(e:lb v=some l):v= .loc l:=by cases v<;>first|exact cn e|exact congrArg _ (Option.some.inj e)
theorem k'{l:Int}(e:jk v=some l):v= .int l:=by cases v<;>first|exact cn e|exact congrArg _ (Option.some.inj e)
theorem kn{l:Str}(e:km v=some l):v= .str l:=by cases v<;>first|exact cn e|exact congrArg _ (Option.some.inj e)
theorem vD{l:List V}(e:vC v=some l):v= .tup l:=by cases v<;>first|exact cn e|exact congrArg _ (Option.some.inj e)
theorem yJ{l:Nat×Nat}(e:vB v=some l):v= .ins l.1 l.2:=by cases v<;>first|exact cn e|exact congrArg (fun p=>V.ins p.1 p.2) (Option.some.inj e)
theorem iv{l:List V}(e:h_ o=some l):o=some (.list l):=by
 cases o with
 |none=>exact cn e
 |some m=>cases m<;>first|exact cn e|exact congrArg (fun p=>some (aM.list p)) (Option.some.inj e)
theorem pj{l:List (Str×V)}(e:lW o=some l):o=some (.aS l):=by
 cases o with
 |none=>exact cn e
 |some m=>cases m<;>first|exact cn e|exact congrArg (fun p=>some (aM.aS p)) (Option.some.inj e)
end
noncomputable def Dn:V→Option Unit| .none=>some ()|_=>none
theorem MB{v:V}{l:Unit}(e:Dn v=some l):v= .none:=by cases v<;>first|exact cn e|rfl
theorem KE.of{c:a9}{J:List Addr}{s:Shared}{Q:Value→Shared→Prop}{p r:V×ao}(e:some p=some r)(q:∀aw s' w,aX c aw r.2 s'→Step [] J aw s s'→aC s'.heap aw r.1 w→Q w s'):
 ∀aw s' w,aX c aw p.2 s'→Step [] J aw s s'→aC s'.heap aw p.1 w→Q w s':=Option.some.inj e▸q
theorem cz.le{k gV:Nat}{A:Around}(h:cz k A)(aB:gV≤k):cz gV A:=⟨by have:=h.1;omega,by have:=h.2.1;omega,h.2.2.1,fun q=>h.2.2.2 (by omega)⟩
theorem cz.depth{k:Nat}{A:Around}(h:cz k A):A.depth<recursionLimit:=by have:=h.1;unfold recursionLimit;omega
theorem cz.deeper{k:Nat}{A:Around}{env:Env}(h:cz (k+1) A):cz k (A.deeper env):=
 ⟨by have:=h.1;simp only[Around.deeper];omega,by have:=h.2.1;simp only[Around.deeper];omega,h.2.2.1,fun _=>h.2.2.2 (by omega)⟩
theorem cz.hd{k:Nat}{A:Around}(h:cz (k+1) A):A.handled=none:=h.2.2.2 (by omega)
theorem bA.at{c:a9}{nm:a5}{k:Nat}{e:Expr}{D:a0}(h:bA c nm k e D){fr:cX}(aL:dw nm fr){J:List Addr}{σ:aN}{H:ao}{s:Shared}(I:aX c J H s)(F:dm c nm fr J σ s)
 {v:V} {H':ao} (d:D σ H=some (v,H')) {A:Around} (a:cz k A) {Q E:Value→Shared→Prop}
 (q:∀aw s' w,aX c aw H' s'→dm c nm fr aw σ s'→Step [] J aw s s'→aC s'.heap aw v w→Q w s'):wpAny (model c.prog c.w) A (eval e fr.env) Q E s:=
 h fr aL J σ H s I F v H' d A a Q E fun aw s' w c4 st r=>q aw s' w c4 (F.step I st) st r
noncomputable def aj(v:V):a0:=fun _ H=>some (v,H)
noncomputable def aa(i:Nat):a0:=fun σ H=>(σ i).map (·,H)
section
variable{c:a9}{nm:a5}{k:Nat}
theorem eF{fc:Nat}{pos:Pos}:bA c nm k (.Constant .none fc pos) (aj .none):=by
 intro fr aL J σ H s I F v H' d A a Q E q
 cases d
 exact wpAny_Constant_none (q J s _ I .refl (by rw[aC]))
theorem ii{b:Bool}{fc:Nat}{pos:Pos}:bA c nm k (.Constant (.bool b) fc pos) (aj (.bool b)):=by
 intro fr aL J σ H s I F v H' d A a Q E q
 cases d
 exact wpAny_Constant_bool (q J s _ I .refl (by rw[aC]))
theorem bn{i:Int}{fc:Nat}{pos:Pos}:bA c nm k (.Constant (.int i) fc pos) (aj (.int i)):=by
 intro fr aL J σ H s I F v H' d A a Q E q
 cases d
 exact wpAny_Constant_int (q J _ _ I.toks .toks (by rw[aC];exact⟨_,rfl⟩))
theorem a8{x:Str}{fc:Nat}{pos:Pos}:bA c nm k (.Constant (.str x) fc pos) (aj (.str x)):=by
 intro fr aL J σ H s I F v H' d A a Q E q
 cases d
 exact wpAny_Constant_str (q J _ _ I.toks .toks (by rw[aC];exact⟨_,rfl⟩))
theorem ac(i:Nat){x:Str}{pos:Pos}(af:(nameAt nm i,x==("__debug__":Str),x==("__classdict__":Str))=(some x,false,false)):bA c nm k (.Name x pos) (aa i):=by
 intro fr aL J σ H s I F v H' d A a Q E q
 unfold aa at d
 cases gE:σ i with
 |none=>rw[gE] at d;exact cn d
 |some u=>
  rw[gE] at d;cases d
  obtain⟨m,aD,bH,aR⟩:=F.loc
  obtain⟨y,w,ag,ah,aE⟩:=aR i _ gE
  obtain rfl:x=y:=Option.some.inj ((congrArg Prod.fst af).symm.trans ag)
  refine wpAny_Name ?_ (congrArg (·.2.1) af)
  rcases ah with⟨ah,a7⟩|⟨ah|ah,b4,a7,cj⟩
  ·exact wpAny_loadName_local aL.kind ah aD a7 (q J s w I .refl aE)
  ·exact wpAny_loadName_cell aL.kind ah a7 cj (q J s w I .refl aE)
  ·exact wpAny_loadName_free aL.kind ah a7 cj (q J s w I .refl aE) (congrArg (·.2.2) af)
theorem G0{fr:cX}(aL:dw nm fr){x:Str}(af:nm.lookup x=some .globalImplicit){A:Around}{E:Value→Shared→Prop}{Q:Value→Shared→Prop}{s:Shared}
 (h:wpAny (model c.prog c.w) A (loadGlobal fr.env x) Q E s):wpAny (model c.prog c.w) A (loadName fr.env x) Q E s:=by
 unfold loadName
 simp only[Env.blockKind,aL.kind,aL.gl x af,ScopeKind.isAnnotationScope,Bool.false_and,Bool.false_eq_true,if_false]
 exact h
theorem oM{x:Str}{pos:Pos}{u:V}{w:Value}(ok:c.Ok)(af:nm.lookup x=some .globalImplicit)(b6:c.ce x=some w)(bR:∀J,aC c.base J u w)
 (hd:(x==("__debug__":Str))=false):bA c nm k (.Name x pos) (aj u):=by
 intro fr aL J σ H s I F v H' d A a Q E q
 cases d
 refine wpAny_Name (G0 aL af ?_) hd
 unfold loadGlobal
 rw[aL.globals]
 refine wpAny_bind (wpAny_nsGet (ok.g.keeps I.keep) ?_)
 rw[b6]
 exact wpAny_pure (q J s w I .refl (aC.mono (fun a o e _=>I.keep a o e) (fun _ _ e=>e) _ (bR J)))
theorem bK{x:Str}{pos:Pos}{w:Value}(ok:c.Ok)(b6:c.ce x=some w)(h:(nm.lookup x,x==("__debug__":Str))=(some .globalImplicit,false)):bA c nm k (.Name x pos) (aj (.st w)):=oM ok (congrArg Prod.fst h) b6 (fun _=>by rw[aC]) (congrArg Prod.snd h)
theorem cf{x:Str}{pos:Pos}{w:Value}(ok:c.Ok)(h:(nm.lookup x,x==("__debug__":Str))=(some .globalImplicit,false))(b6:c.ce x=none)(az:(bootBuiltins x,x==("__name__":Str))=(some w,false)):bA c nm k (.Name x pos) (aj (.st w)):=by
 have aD:x≠"__name__":=fun e=>Bool.noConfusion ((beq_iff_eq.mpr e).symm.trans (congrArg Prod.snd az))
 replace az:bootBuiltins x=some w:=congrArg Prod.fst az
 have af:nm.lookup x=some .globalImplicit:=congrArg Prod.fst h
 have hd:=congrArg Prod.snd h
 intro fr aL J σ H s I F v H' d A a Q E q
 cases d
 refine wpAny_Name (G0 aL af ?_) hd
 unfold loadGlobal
 rw[aL.globals,aL.builtins]
 refine wpAny_bind (wpAny_nsGet (ok.g.keeps I.keep) ?_)
 rw[b6]
 refine wpAny_bind (wpAny_nsGet (ok.b.keeps I.keep) ?_)
 rw[ok.bi x aD,az]
 exact wpAny_pure (q J s w I .refl (by rw[aC]))
end
theorem aC.int_inv{h:Heap}{J:List Addr}{i:Int}{w:Value}(r:aC h J (.int i) w):∃t,w= .int i t:=by rw[aC] at r;exact r
theorem aC.str_inv{h:Heap}{J:List Addr}{i:Str}{w:Value}(r:aC h J (.str i) w):∃t,w= .str i t:=by rw[aC] at r;exact r
theorem aC.bool_inv{h:Heap}{J:List Addr}{i:Bool}{w:Value}(r:aC h J (.bool i) w):w= .bool i:=by rw[aC] at r;exact r
theorem aC.none_inv{h:Heap}{J:List Addr}{w:Value}(r:aC h J .none w):w= .none:=by rw[aC] at r;exact r
theorem aC.rN{h:Heap}{J:List Addr}{l:Nat}{w:Value}(r:aC h J (.loc l) w):∃a,w= .ref a∧J[l]?=some a:=by rw[aC] at r;exact r
theorem aC.xU{h:Heap}{J:List Addr}{xs:List V}{w:Value}(r:aC h J (.tup xs) w):∃a vs n,w= .ref a∧h.get? a=some ⟨.type "tuple",none, .seq vs.toArray n,#[]⟩∧bL h J xs vs:=by rw[aC] at r;exact r
theorem aC.RN{h:Heap}{J:List Addr}{C l:Nat}{w:Value}(r:aC h J (.ins C l) w):∃a bv,w= .ref a∧h.get? a=some (instObj C bv)∧J[l]?=some bv:=by rw[aC] at r;exact r
theorem aC.my{h:Heap}{J:List Addr}{v w:Value}(r:aC h J (.st v) w):w=v:=by rw[aC] at r;exact r
theorem aC.mkInt{h:Heap}{J:List Addr}{i:Int}{t:Tok}:aC h J (.int i) (.int i t):=by rw[aC];exact⟨_,rfl⟩
theorem aC.mkStr{h:Heap}{J:List Addr}{i:Str}{t:Tok}:aC h J (.str i) (.str i t):=by rw[aC];exact⟨_,rfl⟩
theorem aC.oF{h:Heap}{J:List Addr}{i:Bool}:aC h J (.bool i) (.bool i):=by rw[aC]
theorem aC.mkNone{h:Heap}{J:List Addr}:aC h J .none .none:=by rw[aC]
section
variable{c:a9}{J:List Addr}{H:ao}{s:Shared}
theorem aX.grow(I:aX c J H s){s':Shared}(aB:∀b o,s.heap.get? b=some o→s'.heap.get? b=some o)(aY:s.heap.objs.size≤s'.heap.objs.size):aX c J H s':=
 ⟨fun b o e=>aB _ _ (I.keep b o e),I.iH,Nat.le_trans I.big aY,I.bk,I.len,fun i m e=>by
  obtain⟨a,o,ag,ah,aE⟩:=I.objs i m e
  exact⟨a,o,ag,aB _ _ ah,aE.mono (fun a o e _=>aB _ _ e) (fun _ _ e=>e)⟩⟩
theorem Step.grow{own J:List Addr}{s s':Shared}(aB:∀b o,s.heap.get? b=some o→s'.heap.get? b=some o)(aY:s.heap.objs.size≤s'.heap.objs.size)(b6:s'.gens=s.gens)(aT:s'.os=s.os):Step own J J s s':=
 ⟨⟨[],by simp⟩,fun b o e _ _=>aB b o e,aY,b6,aT⟩
theorem aX.push(I:aX c J H s){o:Obj}{t:Nat}:aX c J H {s with heap:=s.heap.push o,toks:=t}:=I.grow (fun b cF e=>Heap.get?_push_of_some _ e) (by show _≤(s.heap.push o).objs.size;rw[Heap.size_push];omega)
theorem Step.push{own J:List Addr}{s:Shared}{o:Obj}{t:Nat}:Step own J J s {s with heap:=s.heap.push o,toks:=t}:=
 .grow (fun b cF e=>Heap.get?_push_of_some _ e) (by show _≤(s.heap.push o).objs.size;rw[Heap.size_push];omega) rfl rfl
theorem Ua{α:Type}{l:List α}{a:α}(h:l.Nodup)(aP:a∉l):(l++[a]).Nodup:=List.nodup_append.mpr ⟨h,List.nodup_cons.mpr ⟨List.not_mem_nil,List.nodup_nil⟩,fun x af y aQ e=>aP (List.mem_singleton.mp aQ▸e▸af)⟩
theorem AV{α:Type}{l:List α}{a b:α}(h:b∈l++[a]):b∈l∨b=a:=(List.mem_append.mp h).imp id List.mem_singleton.mp
theorem V2{α:Type}{l:List α}{a m:α}{i:Nat}{G:Prop}(e:(l++[a])[i]?=some m)(k1:l[i]?=some m→G)(k2:i=l.length→a=m→G):G:=by
 by_cases hi:i<l.length
 ·exact k1 ((List.getElem?_append_left hi).symm.trans e)
 ·rw[List.getElem?_append_right (Nat.not_lt.mp hi)] at e
  cases bM:i - l.length with
  |zero=>rw[bM] at e;exact k2 (Nat.le_antisymm (Nat.sub_eq_zero_iff_le.mp bM) (Nat.not_lt.mp hi)) (Option.some.inj e)
  |succ j=>rw[bM] at e;exact cn e
theorem aX.Dj(I:aX c J H s){ax:Heap}{a:Addr}{o:Obj}{m:aM}{t:Nat}(aB:∀b o,s.heap.get? b=some o→ax.get? b=some o)(hz:s.heap.objs.size≤ax.objs.size)(aP:s.heap.objs.size≤a)(aT:ax.get? a=some o)
 (aZ:hB c ax (J++[a]) o m):aX c (J++[a]) (H++[m]) {s with heap:=ax,toks:=t}∧Step [] J (J++[a]) s {s with heap:=ax,toks:=t}:=by
 have lk:∀(l:Nat) (b:Addr),J[l]?=some b→(J++[a])[l]?=some b:=fun l b e=>(List.getElem?_append_left (List.getElem?_eq_some_iff.mp e).1).trans e
 refine⟨⟨fun b cF e=>aB _ _ (I.keep b cF e),fun b az=>(AV az).elim (I.iH b) fun q=> .inl (q▸Nat.le_trans I.big aP),Nat.le_trans I.big hz,Ua I.bk fun q=>Nat.lt_irrefl _ (Nat.lt_of_lt_of_le (I.lt q) aP),?_,fun i m' e=> ?_⟩,⟨⟨[a],rfl,fun b az=>List.mem_singleton.mp az▸aP⟩,fun b cF e _ _=>aB b cF e,hz,rfl,rfl⟩⟩
 ·rw[List.length_append,List.length_append,I.len];rfl
 ·refine V2 e (fun e=> ?_) fun hi hm=> ?_
  ·obtain⟨b,cF,ag,ah,aE⟩:=I.objs i m' e
   exact⟨b,cF,lk _ _ ag,aB _ _ ah,aE.mono (fun a o e _=>aB _ _ e) lk⟩
  ·subst hi hm
   exact⟨a,o,I.len▸List.getElem?_concat_length,aT,aZ⟩
theorem aX.alloc(I:aX c J H s){o:Obj}{m:aM}{t:Nat}(aZ:hB c s.heap J o m):
 aX c (J++[s.heap.objs.size]) (H++[m]) {s with heap:=s.heap.push o,toks:=t}∧Step [] J (J++[s.heap.objs.size]) s {s with heap:=s.heap.push o,toks:=t}:=by
 have QF:o.isFreed=false:=by rcases aZ.mut with⟨vs,n,rfl⟩|⟨vs,n,rfl⟩<;>rfl
 have aB:∀b cF,s.heap.get? b=some cF→(s.heap.push o).get? b=some cF:=fun b cF e=>Heap.get?_push_of_some _ e
 exact I.Dj aB (by rw[Heap.size_push];exact Nat.le_succ _) (Nat.le_refl _) (Heap.get?_push_size _ QF) (aZ.mono (fun a o e _=>aB _ _ e) fun l b e=>(List.getElem?_append_left (List.getElem?_eq_some_iff.mp e).1).trans e)
theorem aX.turn(I:aX c J H s){l:Nat}{a:Addr}{cF:Obj}{m':aM}{ax:Heap}{t:Nat}(aP:J[l]?=some a)(aY:Heap.SameBut a s.heap ax)(aT:ax.get? a=some cF)(aZ:hB c s.heap J cF m'):
 aX c J (H.set l m') {s with heap:=ax,toks:=t}∧Step [] J J s {s with heap:=ax,toks:=t}:=by
 have hm:a∈J:=List.mem_of_getElem? aP
 have hf:∀b o,s.heap.get? b=some o→fi o→ax.get? b=some o:=fun b o e f=>(aY.2 b fun q=>I.iG (q▸hm) e f).trans e
 refine⟨⟨fun b o e=>(aY.2 b fun q=> ?_).trans (I.keep b o e),I.iH,Nat.le_trans I.big (Nat.le_of_eq aY.1.symm),I.bk,by simp[I.len],fun i m e=> ?_⟩,⟨⟨[],by simp⟩,fun b o e az _=>(aY.2 b fun q=>az (q▸hm)).trans e,Nat.le_of_eq aY.1.symm,rfl,rfl⟩⟩
 ·subst q;rw[I.T' hm] at e;cases e
 ·rw[List.getElem?_set] at e
  split at e
  ·rename_i hi
   subst hi
   split at e
   ·cases e
    exact⟨a,cF,aP,aT,aZ.mono hf (fun _ _ e=>e)⟩
   ·cases e
  ·rename_i hi
   obtain⟨b,o,ag,ah,aE⟩:=I.objs i m e
   refine⟨b,o,ag,(aY.2 b fun q=>hi ?_).trans ah,aE.mono hf (fun _ _ e=>e)⟩
   subst q
   have au:=(List.getElem?_eq_some_iff.mp aP).1
   exact(List.getElem?_inj au I.bk).mp (aP.trans ag.symm)
end
section
variable{h:Heap}{J:List Addr}{w:Value}{G:Value→Prop}
theorem aC.fM{i:Int}(r:aC h J (.int i) w)(k:∀t,G (.int i t)):G w:=by obtain⟨t,rfl⟩:=r.int_inv;exact k t
theorem aC.ff{i:Str}(r:aC h J (.str i) w)(k:∀t,G (.str i t)):G w:=by obtain⟨t,rfl⟩:=r.str_inv;exact k t
theorem aC.lZ{i:Bool}(r:aC h J (.bool i) w)(k:G (.bool i)):G w:=r.bool_inv▸k
theorem aC.lE(r:aC h J .none w)(k:G .none):G w:=r.none_inv▸k
theorem aC.stK{v:Value}(r:aC h J (.st v) w)(k:G v):G w:=r.my▸k
theorem aC.gr{l:Nat}(r:aC h J (.loc l) w)(k:∀a,J[l]?=some a→G (.ref a)):G w:=by obtain⟨a,rfl,e⟩:=r.rN;exact k a e
theorem aC.tupK{xs:List V}(r:aC h J (.tup xs) w)(k:∀a vs n,h.get? a=some ⟨.type "tuple",none, .seq vs.toArray n,#[]⟩→bL h J xs vs→G (.ref a)):G w:=by obtain⟨a,vs,n,rfl,e,q⟩:=r.xU;exact k a vs n e q
theorem aC.Am{C l:Nat}(r:aC h J (.ins C l) w)(k:∀a bv,h.get? a=some (instObj C bv)→J[l]?=some bv→G (.ref a)):G w:=by obtain⟨a,bv,rfl,e,q⟩:=r.RN;exact k a bv e q
theorem aX.mh{c:a9}{H:ao}{s:Shared}{G:Prop}{l:Nat}{a:Addr}{m:aM}(I:aX c J H s)(aP:J[l]?=some a)(au:H[l]?=some m)(k:∀o,s.heap.get? a=some o→hB c s.heap J o m→G):G:=by
 obtain⟨b,o,ak,bW,q⟩:=I.objs l m au
 rw[aP] at ak;cases ak;exact k o bW q
theorem aX.hL{c:a9}{H:ao}{s:Shared}{G:Prop}{l:Nat}{a:Addr}{xs:List V}(I:aX c J H s)(aP:J[l]?=some a)(au:H[l]?=some (.list xs))(k:∀vs n,s.heap.get? a=some (eR vs n)→bL s.heap J xs vs→G):G:=
 I.mh aP au fun o e ⟨vs,n,bW,q⟩=>k vs n (bW▸e) q
theorem aX.ql{c:a9}{H:ao}{s:Shared}{G:Prop}{l:Nat}{a:Addr}{ps:List (Str×V)}(I:aX c J H s)(aP:J[l]?=some a)(au:H[l]?=some (.aS ps))(k:∀av n,s.heap.get? a=some (df av n)→fl c.w s.heap J ps av→(ps.map (·.1)).Nodup→G):G:=
 I.mh aP au fun o e ⟨av,n,bW,q,d⟩=>k av n (bW▸e) q d
end
theorem aX.lX{c:a9}{J:List Addr}{H:ao}{s:Shared}(I:aX c J H s){a:Addr}:(J++[a])[H.length]?=some a:=I.len▸List.getElem?_concat_length
theorem aX.newList{c:a9}{J u0:List Addr}{H:ao}{s s0:Shared}{xs:List V}{ws:List Value}{n t:Nat}{Q:Value→Shared→Prop}{r:V×ao}(I:aX c J H s)(st:Step [] u0 J s0 s)(rs:bL s.heap J xs ws)(e:some (.loc H.length,H++[.list xs])=some r)
 (q:∀aw s' w,aX c aw r.2 s'→Step [] u0 aw s0 s'→aC s'.heap aw r.1 w→Q w s'):Q (.ref s.heap.objs.size) {s with heap:=s.heap.push (eR ws n),toks:=t}:=
 have N:=I.alloc (o:=eR ws n) (m:= .list xs) (t:=t) ⟨ws,n,rfl,rs⟩
 KE.of e q _ _ _ N.1 (st.trans N.2) ⟨_,rfl,I.lX⟩
theorem uf{a:Int}{n:Nat}(h:a.natAbs<n): -(n:Int)<a∧a<n:=
 ⟨Int.neg_lt_of_neg_lt (Int.lt_of_le_of_lt (Int.natAbs_neg a▸Int.le_natAbs) (Int.ofNat_lt.mpr h)),Int.lt_of_le_of_lt Int.le_natAbs (Int.ofNat_lt.mpr h)⟩
theorem xI{a:Int}(h:a.natAbs<2^60): -(2^63)≤a∧a<2^63:=⟨Int.le_of_lt (Int.lt_trans (by decide) (uf h).1),Int.lt_trans (uf h).2 (by decide)⟩
noncomputable def wO:Operator→Int→Int→Option Int
 | .Add,a,b=>some (a+b)
 | .Sub,a,b=>some (a - b)
 | .Mult,a,b=>if a.natAbs<2^31∧b.natAbs<2^31 then some (a*b)else none
 | .FloorDiv,a,b=>if b.natAbs<2^30∧b≠0 then some (a.fdiv b)else none
 | .Mod,a,b=>if b≠0 then some (a.fmod b)else none
 | .LShift,a,b=>if 0≤b∧b≤100∧a.natAbs<2^64 then some (a*2^b.toNat)else none
 | .RShift,a,b=>if 0≤b then some (a.fdiv (2^b.toNat))else none
 | .BitAnd,a,b=>some (Builtin.bitAnd a b)
 |_,_,_=>none
theorem J'{a:Int}(h:a.natAbs<2^31): -(2^64)<a∧a<2^64:=⟨Int.lt_trans (by decide) (uf h).1,Int.lt_trans (uf h).2 (by decide)⟩
theorem RD{prog:Program}{w:World}{A:Around}{E:Value→Shared→Prop}{s:Shared}{op:Operator}{a b r:Int}{t u:Tok}{Q:Value→Shared→Prop}(e:wO op a b=some r)
 (q:∀bt sj,Q (.int r bt) {s with toks:=sj}):wpAny (model prog w) A (binaryOp op (.int a t) (.int b u)) Q E s:=by
 cases op with
 |Add=>obtain rfl:=Option.some.inj e;exact add_int (q _ _)
 |Sub=>obtain rfl:=Option.some.inj e;exact sub_int (q _ _)
 |Mult=>exact c3 e fun bU e=>by obtain rfl:=Option.some.inj e;exact mul_int (q _ _) (IntMulOk.of_left (intBits_le_64 (J' bU.1).1 (J' bU.1).2))
 |FloorDiv=>exact c3 e fun bU e=>by obtain rfl:=Option.some.inj e;exact floordiv_int bU.2 (q _ _) (.inl (PyProof.noPylong_small bU.1))
 |Mod=>exact c3 e fun bU e=>by obtain rfl:=Option.some.inj e;exact mod_int' bU (q _ _)
 |LShift=>exact c3 e fun bU e=>by obtain rfl:=Option.some.inj e;exact lshift_int_small bU.1 (Int.le_trans bU.2.1 (by decide)) bU.2.2 (q _ _)
 |RShift=>exact c3 e fun bU e=>by obtain rfl:=Option.some.inj e;exact rshift_int bU (q _ _)
 |BitAnd=>obtain rfl:=Option.some.inj e;exact and_int (q _ _)
 |_=>exact cn e
inductive mL where
 |next
 |ret (v:V)
noncomputable abbrev b9:=aN→ao→Option (mL×aN×ao)
noncomputable abbrev cK:=aN→ao→Option (Bool×ao)
noncomputable abbrev bz:=List V→ao→Option (V×ao)
noncomputable def kc(h:Heap)(J:List Addr):mL→Flow→Prop
 | .next,f=>f= .next
 | .ret v,f=>∃w,f= .ret w∧aC h J v w
structure Lw(nm:a5)(fr:cX)(s:Shared):Prop where
 L:fr.env.locals∈fr.own
 cl:∀x,nm.lookup x=some .cell→fr.env.kindOf x=some .cell∧∃b4 v,fr.env.cells.lookup x=some b4∧s.heap.IsCell b4 v∧b4∈fr.own
 apart:(∃x,nm.lookup x=some .cell)→fr.env.cells.Pairwise fun x y=>x.2≠y.2
structure b_(c:a9)(nm:a5)(fr:cX)(J:List Addr)(σ:aN)(H:ao)(s:Shared):Prop where
 h:aX c J H s
 f:dm c nm fr J σ s
 n:Lw nm fr s
section
variable{c:a9}{nm:a5}{fr:cX}{J aw:List Addr}{H H':ao}{s s':Shared}{σ:aN}
theorem b_.step(I:b_ c nm fr J σ H s)(c4:aX c aw H' s')(x:Step [] J aw s s'):b_ c nm fr aw σ H' s':=
 ⟨c4,I.f.step I.h x,I.n.L,fun y aQ=>by
  obtain⟨ag,b4,v,ah,aE,a7⟩:=I.n.cl y aQ
  exact⟨ag,b4,v,ah,IsCell.of_get aE fun o e=>x.ey _ _ e (I.h.mf aE) (by simp),a7⟩,I.n.apart⟩
end
noncomputable def h9(c:a9)(nm:a5)(k:Nat)(e:Expr)(D:cK):Prop:=
 ∀(fr:cX),dw nm fr→∀(J:List Addr) (σ:aN) (H:ao) (s:Shared),aX c J H s→dm c nm fr J σ s→∀v H',D σ H=some (v,H')→
  ∀(A:Around),cz k A→∀(Q:Bool→Shared→Prop) (E:Value→Shared→Prop),
   (∀aw s',aX c aw H' s'→Step [] J aw s s'→Q v s')→wpAny (model c.prog c.w) A (isTrue e fr.env (eval e fr.env)) Q E s
noncomputable def eC(c:a9)(nm:a5)(k:Nat)(st:Stmt)(D:b9):Prop:=
 ∀(fr:cX),dw nm fr→∀(J:List Addr) (σ:aN) (H:ao) (s:Shared),b_ c nm fr J σ H s→∀a3 ba H',D σ H=some (a3,ba,H')→
  ∀(A:Around),cz k A→∀(Q:Flow→Shared→Prop) (E:Value→Shared→Prop),
   (∀aw s' f,b_ c nm fr aw ba H' s'→Step fr.own J aw s s'→kc s'.heap aw a3 f→Q f s')→wpAny (model c.prog c.w) A (exec st fr.env) Q E s
noncomputable def lS(c:a9)(nm:a5)(k:Nat)(st:List Stmt)(D:b9):Prop:=
 ∀(fr:cX),dw nm fr→∀(J:List Addr) (σ:aN) (H:ao) (s:Shared),b_ c nm fr J σ H s→∀a3 ba H',D σ H=some (a3,ba,H')→
  ∀(A:Around),cz k A→∀(Q:Flow→Shared→Prop) (E:Value→Shared→Prop),
   (∀aw s' f,b_ c nm fr aw ba H' s'→Step fr.own J aw s s'→kc s'.heap aw a3 f→Q f s')→wpAny (model c.prog c.w) A (execs st fr.env) Q E s
noncomputable def ck(c:a9)(k:Nat)(f:Addr)(F:bz):Prop:=
 ∀(J:List Addr) (H:ao) (s:Shared) (args:List V) (vals:List Value),aX c J H s→bL s.heap J args vals→∀v H',F args H=some (v,H')→
  ∀(A:Around),cz k A→∀(R:Result→Shared→Prop),
   (∀aw s' w,aX c aw H' s'→Step [] J aw s s'→aC s'.heap aw v w→R (.ok (.ret w)) s')→codeAny (model c.prog c.w) A (.call (.ref f) ⟨vals,[]⟩) R s
theorem ck.up{c:a9}{k gV:Nat}{f:Addr}{F:bz}(h:ck c k f F)(aB:Nat.ble k gV=true):ck c gV f F:=
 fun J H s args vals I r v H' d A a=>h J H s args vals I r v H' d A (a.le (Nat.le_of_ble_eq_true aB))
theorem ck.le{c:a9}{k gV:Nat}{f:Addr}{F:bz}(h:ck c k f F)(aB:k≤gV):ck c gV f F:=
 fun J H s args vals I r v H' d A a=>h J H s args vals I r v H' d A (a.le aB)
theorem f6.of{c:a9}{nm:a5}{fr:cX}{J:List Addr}{s:Shared}{Q:Flow→Shared→Prop}{p r:mL×aN×ao}(e:some p=some r)
 (q:∀aw s' f,b_ c nm fr aw r.2.1 r.2.2 s'→Step fr.own J aw s s'→kc s'.heap aw r.1 f→Q f s'):∀aw s' f,b_ c nm fr aw p.2.1 p.2.2 s'→Step fr.own J aw s s'→kc s'.heap aw p.1 f→Q f s':=Option.some.inj e▸q
noncomputable def aI:b9:=fun σ H=>some (.next,σ,H)
noncomputable def ra{fg:Type}(D:b9)(F:mL→aN→ao→Option fg):aN→ao→Option fg:=fun σ H=>(D σ H).bind fun p=>F p.1 p.2.1 p.2.2
theorem pq{fg:Type}{D:b9}{F:mL→aN→ao→Option fg}{σ:aN}{H:ao}{r:fg}{G:Prop}(d:ra D F σ H=some r)(k:∀a3 ba H',D σ H=some (a3,ba,H')→F a3 ba H'=some r→G):G:=bQ d fun p h d=>k p.1 p.2.1 p.2.2 h d
noncomputable def aq(D R:b9):b9:=ra D fun a3 σ H=>match a3 with
 | .next=>R σ H
 | .ret v=>some (.ret v,σ,H)
noncomputable def upd(σ:aN)(i:Nat)(v:V):aN:=fun j=>if j=i then some v else σ j
noncomputable def bT(i:Nat)(D:a0):b9:=cC D fun v σ H=>some (.next,upd σ i v,H)
noncomputable def bS(D:a0):b9:=cC D fun v σ H=>some (.ret v,σ,H)
noncomputable def y0:b9:=fun σ H=>some (.ret .none,σ,H)
noncomputable def b8(T:cK)(D R:b9):b9:=cC T fun b σ H=>match b with
 |true=>D σ H
 |false=>R σ H
noncomputable def c8(D:a0):b9:=cC D fun _ σ H=>some (.next,σ,H)
noncomputable def vS(T:cK)(D:b9):Nat→b9
 |0=>fun _ _=>none
 |n+1=>cC T fun b σ H=>match b with
  |true=>ra D (fun a3 σ H=>match a3 with
   | .next=>vS T D n σ H
   | .ret v=>some (.ret v,σ,H)) σ H
  |false=>some (.next,σ,H)
noncomputable def vR(T:cK)(D:b9):b9:=vS T D 64
section
variable{c:a9}{nm:a5}{k:Nat}
theorem aW:lS c nm k [] aI:=
 fun _ _ J _ _ s I _ _ _ d _ _ _ _ q=>wpAny_execs_nil (f6.of d q J s _ I .refl rfl)
theorem aA{st:Stmt}{r:List Stmt}{D R:b9}(h:eC c nm k st D)(aZ:lS c nm k r R):lS c nm k (st::r) (aq D R):=by
 intro fr aL J σ H s I a3 ba H' d A a Q E q
 refine pq d fun f1 b3 H1 cL d=>wpAny_execs_cons (h fr aL J σ H s I _ _ _ cL A a _ E fun aw s' f c4 eL da=> ?_)
 cases f1 with
 |next=>
  cases da
  exact aZ fr aL aw b3 H1 s' c4 _ _ _ d A a Q E fun gx fd pC iM ij qd=>q gx fd pC iM (eL.trans ij) qd
 |ret v=>
  obtain⟨w,rfl,cR⟩:=da
  exact f6.of d q aw s' _ c4 eL ⟨w,rfl,cR⟩
theorem b7{e:Expr}{D:a0}{pos:Pos}(h:bA c nm k e D):eC c nm k (.Return (some e) pos) (bS D):=
 fun fr aL J σ H s I _ _ _ d A a _ E q=>dp d fun _ _ cL e=>wpAny_Return_some (h fr aL J σ H s I.h I.f _ _ cL A a _ E fun aw s' w c4 st r=>f6.of e q aw s' _ (I.step c4 st) st.weaken ⟨w,rfl,r⟩)
theorem VW{pos:Pos}:eC c nm k (.Return none pos) y0:=
 fun _ _ J _ _ s I _ _ _ d _ _ _ _ q=>wpAny_Return_none (f6.of d q J s _ I .refl ⟨_,rfl, .mkNone⟩)
theorem cV{e:Expr}{T:cK}{b o:List Stmt}{D R:b9}{pos:Pos}(h:h9 c nm k e T)(az:lS c nm k b D)(aT:lS c nm k o R):eC c nm k (.If e b o pos) (b8 T D R):=by
 intro fr aL J σ H s I a3 ba H' d A a Q E q
 refine dp d fun v H1 c_ d=>wpAny_If (h fr aL J σ H s I.h I.f _ _ c_ A a _ E fun aw s' c4 st=> ?_)
 cases v with
 |true=>exact az fr aL aw σ H1 s' (I.step c4 st) _ _ _ d A a Q E fun gx fd pC iM ij qd=>q gx fd pC iM (st.weaken.trans ij) qd
 |false=>exact aT fr aL aw σ H1 s' (I.step c4 st) _ _ _ d A a Q E fun gx fd pC iM ij qd=>q gx fd pC iM (st.weaken.trans ij) qd
theorem Gj{fr:cX}(aL:dw nm fr):interactive fr.env=false:=by unfold interactive;rw[aL.kind];rfl
theorem ft{e:Expr}{D:a0}{pos:Pos}(h:bA c nm k e D)(aY:∀env,swapsWith e none pos.line env=pure false:=by intro _;rfl):eC c nm k (.Expr e pos) (c8 D):=
 fun fr aL J σ H s I _ _ _ d A a _ E q=>dp d fun _ _ cL e=>wpAny_Expr_any (h fr aL J σ H s I.h I.f _ _ cL A a _ E fun aw s' w c4 st r=>f6.of e q aw s' _ (I.step c4 st) st.weaken rfl) (Gj aL) (aY _)
theorem AL{x:Str}{fN:NameKind}:∀(l:a5) (j:Nat),(l.map (·.1)).Nodup→l[j]?=some (x,fN)→l.lookup x=some fN
 |(y,gq)::l,0,_,e=>by
  obtain⟨rfl,rfl⟩:=Prod.mk.inj (Option.some.inj e)
  rw[List.lookup_cons,beq_self_eq_true]
 |(y,gq)::l,j+1,bk,e=>by
  rw[List.map_cons,List.nodup_cons] at bk
  have dB:(x==y)=false:=beq_eq_false_iff_ne.mpr fun q=>bk.1 (q▸List.mem_map.mpr ⟨_,List.mem_of_getElem? e,rfl⟩)
  rw[List.lookup_cons,dB]
  exact AL l j bk.2 e
section
variable{fr:cX}{J:List Addr}{σ:aN}{H:ao}{s:Shared}{ax:Heap}{L:Addr}{i:Nat}{x y:Str}{v:V}{w:Value}
theorem Ho(dG:(nm.map (·.1)).Nodup){fN:NameKind}(af:nm[i]?=some (x,fN)){j:Nat}(bM:nameAt nm j=some x):j=i:=by
 have ag:(nm.map (·.1))[j]?=some x:=by rw[List.getElem?_map];exact bM
 have ah:(nm.map (·.1))[i]?=some x:=by rw[List.getElem?_map,af];rfl
 exact(List.getElem?_inj (List.getElem?_eq_some_iff.mp ag).1 dG).mp (ag.trans ah.symm)
theorem uv{o:Obj}(h:(∃av n,o.data= .dict av n)∨∃v,o.data= .cell v):¬fi o:=fun f=>by
 rcases h with⟨_,_,h⟩|⟨_,h⟩<;>rcases f with⟨_,_,_,f⟩|f<;>rw[h] at f<;>cases f
theorem Ns.xg{h:Heap}{m:Str→Option Value}{a b:Addr}{u:Option Value}(n:h.Ns a m)(k:h.IsCell b u):b≠a:=fun z=>by
 obtain⟨r6,FV,Fw⟩:=k
 obtain⟨cF,av,ep,aT,hd,_⟩:=n
 rw[z,aT] at FV;cases FV;rw[hd] at Fw;cases Fw
theorem b_.zu(I:b_ c nm fr J σ H s)(aY:Heap.SameBut L s.heap ax)(bH:L∈fr.own):∀b o,s.heap.get? b=some o→fi o→ax.get? b=some o:=fun b o e f=>(aY.2 b fun z=>by
 obtain⟨_,_,cF,ag,ah⟩:=I.f.own _ bH
 rw[←z,e] at ag;cases ag;exact uv ah f).trans e
theorem b_.zN(I:b_ c nm fr J σ H s)(aY:Heap.SameBut L s.heap ax)(bH:L∈fr.own):aX c J H {s with heap:=ax}:=
 ⟨fun b o e=>(aY.2 b fun z=>by have:=(I.f.own _ bH).2.1;rw[←z,e] at this;cases this).trans (I.h.keep b o e),I.h.iH,Nat.le_trans I.h.big (Nat.le_of_eq aY.1.symm),I.h.bk,I.h.len,fun j AY e=>match I.h.objs j AY e with
  |⟨b,o,ag,ah,aE⟩=>⟨b,o,ag,(aY.2 b fun z=>(I.f.own _ bH).1 (z▸List.mem_of_getElem? ag)).trans ah,aE.mono (I.zu aY bH) fun _ _ e=>e⟩⟩
theorem b_.B2(aY:Heap.SameBut L s.heap ax)(bH:L∈fr.own):Step fr.own J J s {s with heap:=ax}:=
 ⟨⟨[],(List.append_nil _).symm,fun _ h=>nomatch h⟩,fun b o e _ ah=>(aY.2 b fun z=>ah (z▸bH)).trans e,Nat.le_of_eq aY.1.symm,rfl,rfl⟩
theorem b_.Bs(I:b_ c nm fr J σ H s)(aY:Heap.SameBut L s.heap ax){cF:Obj}(aT:ax.get? L=some cF)(hd:(∃av n,cF.data= .dict av n)∨∃v,cF.data= .cell v)(b:Addr)(az:b∈fr.own):b∉J∧c.base.get? b=none∧∃o,ax.get? b=some o∧((∃av n,o.data= .dict av n)∨∃v,o.data= .cell v):=by
 obtain⟨ag,ah,o,aE,a7⟩:=I.f.own b az
 by_cases Fr:b=L
 ·exact⟨ag,ah,cF,Fr▸aT,hd⟩
 ·exact⟨ag,ah,o,(aY.2 b Fr).trans aE,a7⟩
theorem KO{G:Prop}{j:Nat}{u:V}(e:upd σ i v j=some u)(k1:j=i→v=u→G)(k2:j≠i→σ j=some u→G):G:=by
 unfold upd at e
 by_cases h:j=i
 ·rw[if_pos h] at e;exact k1 h (Option.some.inj e)
 ·rw[if_neg h] at e;exact k2 h e
theorem V_(aL:dw nm fr)(dG:(nm.map (·.1)).Nodup)(af:nm[i]?=some (x, .local))(I:b_ c nm fr J σ H s)(r:aC s.heap J v w){A:Around}{Q:Unit→Shared→Prop}{E:Value→Shared→Prop}
 (q:∀s',b_ c nm fr J (upd σ i v) H s'→Step fr.own J J s s'→Q () s'):wpAny (model c.prog c.w) A (storeName fr.env x w) Q E s:=by
 obtain⟨m,aD,bH,aR⟩:=I.f.loc
 have au:=aL.lc x (AL nm i dG af)
 refine wpAny_storeName_local au aD (fun ax pV eu=> ?_) (by rw[aL.kind];rfl)
 have hf:=I.zu eu I.n.L
 have DM:∀{b4 u},s.heap.IsCell b4 u→ax.IsCell b4 u:=fun k=>IsCell.of_get k fun o e=>(eu.2 _ (Ns.xg aD k)).trans e
 refine q _ ⟨(I.zN eu I.n.L).toks,⟨?_,_,pV,bH,fun j u e=> ?_⟩,I.n.L,fun y aQ=> ?_,I.n.apart⟩ ((b_.B2 eu I.n.L).trans .toks)
 ·obtain⟨cF,av,ep,aT,hd,_⟩:=pV
  exact I.Bs eu aT (.inl ⟨av,ep,hd⟩)
 ·refine KO e (fun bM bR=> ?_) fun bM e=> ?_
  ·subst bM bR
   exact⟨x,w,by unfold nameAt;rw[af];rfl, .inl ⟨au,if_pos rfl⟩,r.mono hf fun _ _ e=>e⟩
  ·obtain⟨y,gv,ag,ah,aE⟩:=aR j u e
   exact⟨y,gv,ag,ah.imp (fun h=>⟨h.1,(if_neg (show¬y=x from fun z=>bM (Ho dG af (z▸ag)))).trans h.2⟩) fun⟨h,b4,a7,cj⟩=>⟨h,b4,a7,DM cj⟩,aE.mono hf fun _ _ e=>e⟩
 ·obtain⟨ag,b4,v,ah,aE,a7⟩:=I.n.cl y aQ
  exact⟨ag,b4,v,ah,DM aE,a7⟩
theorem V9(aL:dw nm fr)(dG:(nm.map (·.1)).Nodup)(af:nm[i]?=some (x, .cell))(I:b_ c nm fr J σ H s)(r:aC s.heap J v w){A:Around}{Q:Unit→Shared→Prop}{E:Value→Shared→Prop}
 (q:∀s',b_ c nm fr J (upd σ i v) H s'→Step fr.own J J s s'→Q () s'):wpAny (model c.prog c.w) A (storeName fr.env x w) Q E s:=by
 obtain⟨m,aD,bH,aR⟩:=I.f.loc
 have oz:=AL nm i dG af
 obtain⟨au,b4,v0,jP,Ft,ly⟩:=I.n.cl x oz
 refine wpAny_storeName_cell aL.kind au jP Ft fun ax ru eu=> ?_
 have hf:=I.zu eu ly
 have keep:∀(y:Str) (fa:Addr) (u:Option Value),y≠x→fr.env.cells.lookup y=some fa→s.heap.IsCell fa u→ax.IsCell fa u:=fun y fa u wM a7 cj=>
  cj.sameBut eu fun z=>wM (name_of_addr (I.n.apart ⟨_,oz⟩) (mem_of_lookup a7) (z▸mem_of_lookup jP))
 refine q {s with heap:=ax} ⟨I.zN eu ly,⟨?_,m,aD.sameBut eu (Ns.xg aD Ft).symm,bH,fun j u e=> ?_⟩,I.n.L,fun y aQ=> ?_,I.n.apart⟩ (b_.B2 eu ly)
 ·obtain⟨cF,aT,hd⟩:=ru
  exact I.Bs eu aT (.inr ⟨_,hd⟩)
 ·refine KO e (fun bM bR=> ?_) fun bM e=> ?_
  ·subst bM bR
   exact⟨x,w,by unfold nameAt;rw[af];rfl, .inr ⟨.inl au,b4,jP,ru⟩,r.mono hf fun _ _ e=>e⟩
  ·obtain⟨y,gv,ag,ah,aE⟩:=aR j u e
   exact⟨y,gv,ag,ah.imp id fun⟨h,fa,a7,cj⟩=>⟨h,fa,a7,keep y fa _ (fun z=>bM (Ho dG af (z▸ag))) a7 cj⟩,aE.mono hf fun _ _ e=>e⟩
 ·obtain⟨ag,fa,v,ah,aE,a7⟩:=I.n.cl y aQ
  by_cases wM:y=x
  ·subst wM
   exact⟨au,b4,_,jP,ru,ly⟩
  ·exact⟨ag,fa,v,ah,keep y fa _ wM ah aE,a7⟩
end
theorem sf{fr:cX}(aL:dw nm fr)(dG:(nm.map (·.1)).Nodup){i:Nat}{x:Str}{fN:NameKind}(af:nm[i]?=some (x,fN))(aB:fN= .local∨fN= .cell)
 {J:List Addr} {σ:aN} {H:ao} {s:Shared} (I:b_ c nm fr J σ H s) {v:V} {w:Value} (r:aC s.heap J v w) {A:Around} {Q:Unit→Shared→Prop} {E:Value→Shared→Prop}
 (q:∀s',b_ c nm fr J (upd σ i v) H s'→Step fr.own J J s s'→Q () s'):wpAny (model c.prog c.w) A (storeName fr.env x w) Q E s:=by
 rcases aB with rfl|rfl
 ·exact V_ aL dG af I r q
 ·exact V9 aL dG af I r q
theorem cA{i:Nat}{x:Str}{fN:NameKind}{e:Expr}{D:a0}{jw pos:Pos}(h:bA c nm k e D)(dG:(nm.map (·.1)).Nodup)(af:nm[i]?=some (x,fN))(aB:fN= .local∨fN= .cell)
 (aY:∀env,swapsWith e (some (.Name x jw)) pos.line env=pure false:=by intro _;rfl):eC c nm k (.Assign [.Name x jw] e pos) (bT i D):=
 fun fr aL J σ H s I _ _ _ d A a _ E q=>dp d fun _ _ cL e=>wpAny_Assign_Name (h fr aL J σ H s I.h I.f _ _ cL A a _ E fun aw s' w c4 st r=>sf aL dG af aB (I.step c4 st) r fun fd iM ij=>f6.of e q aw fd _ iM (st.weaken.trans ij) rfl) (aY _)
end
noncomputable def so:V→Option Bool
 | .bool b=>some b
 |_=>none
noncomputable def fx(D:a0):cK:=cC D fun v _ H=>(so v).map (·,H)
noncomputable def po(T:cK):cK:=cC T fun b _ H=>some (!b,H)
noncomputable def ei:List cK→cK
 |[]=>fun _ H=>some (true,H)
 |T::r=>cC T fun b σ H=>match b with
  |true=>ei r σ H
  |false=>some (false,H)
noncomputable def kr:List cK→cK
 |[]=>fun _ H=>some (false,H)
 |T::r=>cC T fun b σ H=>match b with
  |false=>kr r σ H
  |true=>some (true,H)
inductive pi(c:a9)(nm:a5)(k:Nat):List Expr→List cK→Prop
 |nil:pi c nm k [] []
 |cons {e:Expr} {av:List Expr} {T:cK} {fI:List cK}:h9 c nm k e T→pi c nm k av fI→pi c nm k (e::av) (T::fI)
section
variable{c:a9}{nm:a5}{k:Nat}
theorem uU{c:a9}{h:Heap}{J:List Addr}{v:V}{w:Value}{b:Bool}(e:so v=some b)(r:aC h J v w){A:Around}{s:Shared}{Q:Bool→Shared→Prop}{E:Value→Shared→Prop}(q:Q b s):
 wpAny (model c.prog c.w) A (truthy w) Q E s:=by
 cases v with
 |bool hD=>exact r.lZ (G:=fun w=>wpAny _ A (truthy w) Q E s) (wpAny_truthy_bool (Option.some.inj e▸q))
 |_=>exact cn e
theorem hv{e:Expr}{D:a0}(h:bA c nm k e D)(he:∀env whole,isTrue e env whole=(do let v←whole;standAt e.pos;holding [v] (truthy v)):=by intro _ _;rfl):h9 c nm k e (fx D):=
 fun fr aL J σ H s I F _ _ d A a _ E q=>pn (f:=fun v _=>so v) d fun _ cL aR=>wpAny_isTrue_value (h fr aL J σ H s I F _ _ cL A a _ E fun aw s' w c4 st r=>uU aR r (q aw s' c4 st)) (he _ _)
theorem BR{e:Expr}{T:cK}{pos:Pos}(h:h9 c nm k e T):h9 c nm k (.UnaryOp .Not e pos) (po T):=
 fun fr aL J σ H s I F _ _ d A a _ E q=>DN d fun _ cL aR=>isTrue_not (h fr aL J σ H s I F _ _ cL A a _ E fun aw s' c4 st=>aR▸q aw s' c4 st)
theorem VC{fr:cX}(aL:dw nm fr):∀{av:List Expr} {fI:List cK},pi c nm k av fI→∀{J:List Addr} {σ:aN} {H:ao} {s:Shared},aX c J H s→dm c nm fr J σ s→∀{v H'},ei fI σ H=some (v,H')→
 ∀{A:Around},cz k A→∀{Q:Bool→Shared→Prop} {E:Value→Shared→Prop},(∀aw s',aX c aw H' s'→Step [] J aw s s'→Q v s')→wpAny (model c.prog c.w) A (allTrue .And av fr.env) Q E s:=by
 intro av fI h
 induction h with
 |nil=>intro J σ H s I F v H' d A a Q E q;exact lK d fun e aR=>wpAny_allTrue_And_nil (aR▸q J s (e▸I) .refl)
 | @cons e av T fI ag ah aK=>
  intro J σ H s I F v H' d A a Q E q
  refine dp d fun u H1 c_ d=>wpAny_allTrue_And_cons (ag fr aL J σ H s I F _ _ c_ A a _ E fun aw s' c4 st=> ?_)
  cases u with
  |true=>exact aK c4 (F.step I st) d a fun gx fd iM ij=>q gx fd iM (st.trans ij)
  |false=>exact lK d fun e aR=>(show Q false s' from aR▸q aw s' (e▸c4) st)
theorem iI{av:List Expr}{fI:List cK}{pos:Pos}(h:pi c nm k av fI):h9 c nm k (.BoolOp .And av pos) (ei fI):=
 fun fr aL J σ H s I F v H' d A a Q E q=>wpAny_isTrue_BoolOp (VC aL h I F d a q)
theorem VS{fr:cX}(aL:dw nm fr):∀{av:List Expr} {fI:List cK},pi c nm k av fI→∀{J:List Addr} {σ:aN} {H:ao} {s:Shared},aX c J H s→dm c nm fr J σ s→∀{v H'},kr fI σ H=some (v,H')→
 ∀{A:Around},cz k A→∀{Q:Bool→Shared→Prop} {E:Value→Shared→Prop},(∀aw s',aX c aw H' s'→Step [] J aw s s'→Q v s')→wpAny (model c.prog c.w) A (allTrue .Or av fr.env) Q E s:=by
 intro av fI h
 induction h with
 |nil=>intro J σ H s I F v H' d A a Q E q;exact lK d fun e aR=>wpAny_allTrue_Or_nil (aR▸q J s (e▸I) .refl)
 | @cons e av T fI ag ah aK=>
  intro J σ H s I F v H' d A a Q E q
  refine dp d fun u H1 c_ d=>wpAny_allTrue_Or_cons (ag fr aL J σ H s I F _ _ c_ A a _ E fun aw s' c4 st=> ?_)
  cases u with
  |false=>exact aK c4 (F.step I st) d a fun gx fd iM ij=>q gx fd iM (st.trans ij)
  |true=>exact lK d fun e aR=>(show Q true s' from aR▸q aw s' (e▸c4) st)
theorem uJ{av:List Expr}{fI:List cK}{pos:Pos}(h:pi c nm k av fI):h9 c nm k (.BoolOp .Or av pos) (kr fI):=
 fun fr aL J σ H s I F v H' d A a Q E q=>wpAny_isTrue_BoolOp (VS aL h I F d a q)
noncomputable def fb(T:cK)(X Y:a0):a0:=cC T fun b σ H=>match b with
 |true=>X σ H
 |false=>Y σ H
theorem gJ{e b o:Expr}{T:cK}{X Y:a0}{pos:Pos}(h:h9 c nm k e T)(az:bA c nm k b X)(aT:bA c nm k o Y):bA c nm k (.IfExp e b o pos) (fb T X Y):=by
 intro fr aL J σ H s I F v H' d A a Q E q
 refine dp d fun u H1 c_ d=>wpAny_IfExp (h fr aL J σ H s I F _ _ c_ A a _ E fun aw s' c4 st=> ?_)
 cases u with
 |true=>exact az fr aL aw σ H1 s' c4 (F.step I st) _ _ d A a Q E fun gx fd w iM ij=>q gx fd w iM (st.trans ij)
 |false=>exact aT fr aL aw σ H1 s' c4 (F.step I st) _ _ d A a Q E fun gx fd w iM ij=>q gx fd w iM (st.trans ij)
theorem GR{d w m k:Nat}(hw:w≤m):d+w+m*k≤d+m*(k+1):=by
 rw[Nat.mul_succ,Nat.add_assoc,Nat.add_comm w]
 exact Nat.add_le_add_left (Nat.add_le_add_left hw _) _
theorem cz.AM{k:Nat}{A:Around}{cd:Code}(h:cz (k+1) A)(hw:cd.weight≤2)(b6:cd.guards=[])(bR:cd.cUnits≤50):cz k (A.under cd):=
 ⟨Nat.lt_of_le_of_lt (GR (Nat.le_succ_of_le hw)) h.1,Nat.lt_of_le_of_lt (GR (Nat.le_trans bR (by decide))) h.2.1,by show pushGuards cd.guards A.guards=some [];rw[b6,h.2.2.1];rfl,fun _=>h.2.2.2 (Nat.succ_pos k)⟩
theorem cz.loop{k:Nat}{A:Around}{cd:Code}(h:cz (k+1) A)(hw:cd.weight=0)(b6:cd.guards=[])(bR:cd.cUnits≤50):cz k (A.under cd):=h.AM (hw▸Nat.zero_le 2) b6 bR
end
theorem Xr{t:Expr}{b o:List Stmt}{env:Env}:(Code.whileLoop t b o env).weight=0:=rfl
theorem Xp{t:Expr}{b o:List Stmt}{env:Env}:(Code.whileLoop t b o env).guards=[]:=rfl
theorem Xq{t:Expr}{b o:List Stmt}{env:Env}:(Code.whileLoop t b o env).cUnits≤50:=Nat.le_of_ble_eq_true rfl
theorem O2{t:Expr}{i:Value}{b o:List Stmt}{env:Env}:(Code.forLoop t i b o env).weight=0:=rfl
theorem O0{t:Expr}{i:Value}{b o:List Stmt}{env:Env}:(Code.forLoop t i b o env).guards=[]:=rfl
theorem O1{t:Expr}{i:Value}{b o:List Stmt}{env:Env}:(Code.forLoop t i b o env).cUnits≤50:=Nat.le_of_ble_eq_true rfl
section
variable{c:a9}{nm:a5}{k:Nat}
theorem V1{fr:cX}(aL:dw nm fr){e:Expr}{T:cK}{b:List Stmt}{D:b9}(h:h9 c nm k e T)(az:lS c nm k b D):∀(n:Nat) (J:List Addr) (σ:aN) (H:ao) (s:Shared),b_ c nm fr J σ H s→
 ∀a3 ba H',vS T D n σ H=some (a3,ba,H')→∀(A:Around),cz (k+1) A→∀(R:Result→Shared→Prop),
  (∀aw s' f,b_ c nm fr aw ba H' s'→Step fr.own J aw s s'→kc s'.heap aw a3 f→R (.ok f) s')→codeAny (model c.prog c.w) A (.whileLoop e b [] fr.env) R s:=by
 intro n
 induction n with
 |zero=>intro J σ H s I a3 ba H' d;cases d
 |succ n aK=>
  intro J σ H s I a3 ba H' d A a R q
  refine codeAny_of_tree ?_
  show wpAny _ _ ((whileTurn e b [] fr.env).onRaise _) _ _ s
  refine wpAny_onRaise (wpAny_mono (E:=fun _ _=>False) ?_ (fun _ _ x=>x) fun _ _ x=>x.elim)
  unfold whileTurn
  have cp:cz k (A.under (.whileLoop e b [] fr.env)):=a.loop Xr Xp Xq
  refine dp d fun u H1 c_ d=>wpAny_bind (h fr aL J σ H s I.h I.f _ _ c_ _ cp _ _ fun cy s1 br bo=> ?_)
  cases u with
  |false=>exact wpAny_bind (wpAny_execs_nil (wpAny_pure (f6.of (Q:=fun f s=>R (.ok f) s) d q cy s1 _ (I.step br bo) bo.weaken rfl)))
  |true=>
   refine pq d fun OV gy aG cL d=>wpAny_bind (az fr aL cy σ H1 s1 (I.step br bo) _ _ _ cL _ cp _ _ fun ct s2 f2 bx bB bN=> ?_)
   cases OV with
   |next=>
    cases bN
    exact wpAny_pure ⟨rfl,aK ct gy aG s2 bx a3 ba H' d A a R fun ec s3 kv c0 cB fq=>q ec s3 kv c0 ((bo.weaken.trans bB).trans cB) fq⟩
   |ret v=>
    obtain⟨w,rfl,cR⟩:=bN
    exact wpAny_pure (f6.of (Q:=fun f s=>R (.ok f) s) d q ct s2 _ bx (bo.weaken.trans bB) ⟨w,rfl,cR⟩)
theorem J9{e:Expr}{T:cK}{b:List Stmt}{D:b9}{pos:Pos}(h:h9 c nm k e T)(az:lS c nm k b D):eC c nm (k+1) (.While e b [] pos) (vR T D):=
 fun fr aL J σ H s I a3 ba H' d A a Q E q=>wpAny_While (V1 aL h az 64 J σ H s I a3 ba H' d A a _ q)
end
noncomputable def f_(args:List V):aN:=fun i=>args[i]?
noncomputable def cD(np:Nat)(D:b9):bz:=fun args H=>if args.length=np then ra D (fun a3 _ H'=>match a3 with
 | .ret v=>some (v,H')
 | .next=>some (.none,H')) (f_ args) H else none
theorem DA(iZ:Str→Option NameKind):∀(bs:List (Str×Value)) (m:Str→Option Value) (x:Str),x∉bs.map (·.1)→bindL iZ bs m x=m x
 |[],m,x,_=>rfl
 |(n,v)::r,m,x,h=>by
  unfold bindL
  rw[List.map_cons,List.mem_cons,not_or] at h
  rw[DA iZ r _ x h.2]
  split
  ·simp[h.1]
  ·rfl
theorem Dz(iZ:Str→Option NameKind):∀(bs:List (Str×Value)) (m:Str→Option Value) (i:Nat) (x:Str) (v:Value),(bs.map (·.1)).Nodup→bs[i]?=some (x,v)→iZ x=some .local→bindL iZ bs m x=some v
 |[],_,i,_,_,_,e,_=>by simp at e
 |(n,u)::r,m,i,x,v,bk,e,aB=>by
  rw[List.map_cons,List.nodup_cons] at bk
  unfold bindL
  cases i with
  |zero=>
   simp at e;obtain⟨rfl,rfl⟩:=e
   rw[DA iZ r _ _ bk.1,if_pos aB];simp
  |succ i=>exact Dz iZ r _ i x v bk.2 (by simpa using e) aB
theorem Dy(iZ:Str→Option NameKind):∀(bs:List (Str×Value)) (m:Str→Option Value) (x:Str),x∉bs.map (·.1)→bindC iZ bs m x=m x
 |[],m,x,_=>rfl
 |(n,v)::r,m,x,h=>by
  unfold bindC
  rw[List.map_cons,List.mem_cons,not_or] at h
  rw[Dy iZ r _ x h.2]
  split
  ·rfl
  ·simp[h.1]
theorem Dx(iZ:Str→Option NameKind):∀(bs:List (Str×Value)) (m:Str→Option Value) (i:Nat) (x:Str) (v:Value),(bs.map (·.1)).Nodup→bs[i]?=some (x,v)→¬iZ x=some .local→bindC iZ bs m x=some v
 |[],_,i,_,_,_,e,_=>by simp at e
 |(n,u)::r,m,i,x,v,bk,e,aB=>by
  rw[List.map_cons,List.nodup_cons] at bk
  unfold bindC
  cases i with
  |zero=>
   simp at e;obtain⟨rfl,rfl⟩:=e
   rw[Dy iZ r _ _ bk.1,if_neg aB];simp
  |succ i=>exact Dx iZ r _ i x v bk.2 (by simpa using e) aB
theorem lookup_at{nm:a5}(dG:(nm.map (·.1)).Nodup){i:Nat}{x:Str}{fN:NameKind}(e:nm[i]?=some (x,fN)):nm.lookup x=some fN:=by
 induction nm generalizing i with
 |nil=>simp at e
 |cons p l aK=>
  obtain⟨y,gq⟩:=p
  rw[List.map_cons,List.nodup_cons] at dG
  cases i with
  |zero=>simp at e;obtain⟨rfl,rfl⟩:=e;simp[List.lookup_cons]
  |succ j=>
   simp at e
   have dB:(x==y)=false:=by
    have:¬x=y:=fun q=>dG.1 (q▸List.mem_map.mpr ⟨_,List.mem_of_getElem? e,rfl⟩)
    simpa using this
   rw[List.lookup_cons,dB]
   exact aK dG.2 e
inductive Lx(c:a9)(f:Addr)(nm:a5)(np:Nat)(body:List Stmt):Prop
 |mk (r6:Value) (nu:Option Addr) (ut:Array (Option Value)) (name qual:Str) (params:Arguments) (scope:Scope) (px p5 doc pm:Value) (an:Option Addr) (od q9:Value)
  (aT:c.K.lookup f=some ⟨r6,nu, .func (fnX name qual params body scope [] px p5 doc pm an od q9),ut⟩) (rx:codeIn c.K od qual=true) (aD:scope.names=nm) (aB:scope.kind= .function) (wq:scope.isCoroutine=false) (b6:scope.isGenerator=false)
  (az:∀(s:Shared) (vals:List Value),(∀b o,c.base.get? b=some o→s.heap.get? b=some o)→vals.length=np→BindsTo s (fnX name qual params body scope [] px p5 doc pm an od q9) ⟨vals,[]⟩ (((nm.take np).map (·.1)).zip vals))
structure FnAt(c:a9)(f:Addr)(nm:a5)(np:Nat)(body:List Stmt):Prop where
 it:Lx c f nm np body
 bk:(nm.map (·.1)).Nodup
 le:np≤nm.length
 kinds:∀p∈nm.take np,p.2= .local∨p.2= .cell
theorem Lk{α β:Type}:∀{xs:List α} {ci:List β} {i:Nat} {x:α} {y:β},xs[i]?=some x→ci[i]?=some y→(xs.zip ci)[i]?=some (x,y)
 |x::xs,y::ci,0,_,_,ag,ah=>by simp only[List.getElem?_cons_zero,Option.some.injEq] at ag ah;rw[←ag,←ah];rfl
 |x::xs,y::ci,i+1,_,_,ag,ah=>by
  simp only[List.getElem?_cons_succ] at ag ah
  rw[List.zip_cons_cons,List.getElem?_cons_succ]
  exact Lk ag ah
 |[],_,_,_,_,ag,_=>by simp at ag
 |_::_,[],_,_,_,_,ah=>by simp at ah
theorem DH:∀(names:List (Str×NameKind)) (n:Nat) (acc:List (Str×Addr)) (x:Str),names.lookup x=some .cell∨(acc.lookup x).isSome=true→((cellsFrom n names acc).lookup x).isSome=true:=fun names n acc x h=>cellsFrom_some names n acc h
theorem MW:∀(nm:a5) (n:Nat),(nm.map (·.1)).Nodup→((cellsFrom n nm []).map (·.1)).Nodup:=by
 have key:∀(nm:a5) (n:Nat) (acc:List (Str×Addr)),(nm.map (·.1)).Nodup→(acc.map (·.1)).Nodup→(∀x∈acc.map (·.1),x∉nm.map (·.1))→((cellsFrom n nm acc).map (·.1)).Nodup:=by
  intro nm
  induction nm with
  |nil=>intro n acc _ h _;exact h
  |cons p r aK=>
   intro n acc ag ah aE
   obtain⟨y,gq⟩:=p
   rw[List.map_cons,List.nodup_cons] at ag
   unfold cellsFrom
   split
   ·refine aK _ _ ag.2 ?_ fun x af=> ?_
    ·rw[List.map_cons,List.nodup_cons]
     exact⟨fun q=>aE y q (by simp),ah⟩
    ·rw[List.map_cons] at af
     rcases List.mem_cons.mp af with rfl|af
     ·exact ag.1
     ·exact fun q=>aE x af (by rw[List.map_cons];exact List.mem_cons_of_mem _ q)
   ·exact aK _ _ ag.2 ah fun x af q=>aE x af (by rw[List.map_cons];exact List.mem_cons_of_mem _ q)
 exact fun nm n h=>key nm n [] h (by simp) (by simp)
structure Ent(nm:a5)(np:Nat)(vals:List Value)(s s1:Shared)(env:Env):Prop where
 bH:env.locals=s.heap.objs.size
 Fu:env.cells=cellsFrom (s.heap.objs.size+1) nm []
 nf:∀y,env.kindOf y=nm.lookup y
 x:InCallC s env.locals (bindL env.kindOf (((nm.take np).map (·.1)).zip vals) fun _=>none) env.cells (bindC env.kindOf (((nm.take np).map (·.1)).zip vals) fun _=>none) s1
section
variable{c:a9}{nm:a5}{np:Nat}{J:List Addr}{H:ao}{s s1:Shared}{env:Env}{args:List V}{vals:List Value}
theorem Ent.size(e:Ent nm np vals s s1 env):s.heap.objs.size≤s1.heap.objs.size:=Nat.le_of_lt (e.bH▸Heap.Ns.lt e.x.toInCall.ns)
theorem Ent.step(e:Ent nm np vals s s1 env):Step [] J J s s1:=by
 have k:=e.x.toInCall.keep
 have z:=e.size
 obtain⟨ag,Yl,rfl⟩:=e.x.toInCall.same
 exact .grow k z rfl rfl
theorem aX.fresh(I:aX c J H s){b:Addr}(az:s.heap.objs.size≤b):b∉J∧c.base.get? b=none:=⟨fun q=>absurd (I.lt q) (Nat.not_lt.mpr az),by
 cases bC:c.base.get? b with
 |none=>rfl
 |some o=>exact absurd (Heap.lt_size (I.keep _ _ bC)) (Nat.not_lt.mpr az)⟩
theorem Ent.above(e:Ent nm np vals s s1 env){b:Addr}(az:b∈env.cells.map (·.2)):s.heap.objs.size≤b:=by
 obtain⟨p,aH,rfl⟩:=List.mem_map.mp az
 exact e.bH▸Nat.le_of_lt (e.x.above p.1 p.2 aH)
theorem Ent.own(e:Ent nm np vals s s1 env){b:Addr}(az:b∈env.locals::env.cells.map (·.2)):s.heap.objs.size≤b:=
 (List.mem_cons.mp az).elim (fun h=>h▸Nat.le_of_eq e.bH.symm) e.above
theorem Ent.cellOf(e:Ent nm np vals s s1 env){y:Str}(aQ:nm.lookup y=some .cell){G:Prop}(k:∀b4,env.cells.lookup y=some b4→s1.heap.IsCell b4 (bindC env.kindOf (((nm.take np).map (·.1)).zip vals) (fun _=>none) y)→G):G:=by
 obtain⟨b4,jP⟩:=Option.isSome_iff_exists.mp (DH nm (s.heap.objs.size+1) [] y (.inl aQ))
 rw[←e.Fu] at jP
 exact k b4 jP (e.x.cell y b4 jP)
theorem Ent.My(e:Ent nm np vals s s1 env)(bk:(nm.map (·.1)).Nodup){b:Addr}(az:b∈env.cells.map (·.2)):∃o,s1.heap.get? b=some o∧∃v,o.data= .cell v:=by
 obtain⟨p,aH,rfl⟩:=List.mem_map.mp az
 obtain⟨o,aT,hd⟩:=e.x.cell p.1 p.2 (lookup_of_mem_nodup (by rw[e.Fu];exact MW nm _ bk) aH)
 exact⟨o,aT,_,hd⟩
theorem Ent.bound(e:Ent nm np vals s s1 env){f:Addr}{body:List Stmt}(eD:FnAt c f nm np body)(hlen:vals.length=np){i:Nat}{w:Value}(hw:vals[i]?=some w):∃y,nameAt nm i=some y∧
 CF env s1.heap (bindL env.kindOf (((nm.take np).map (·.1)).zip vals) fun _=>none) y w:=by
 have hi:i<np:=hlen▸(List.getElem?_eq_some_iff.mp hw).1
 obtain⟨p,aQ⟩:∃p,nm[i]?=some p:=⟨_,List.getElem?_eq_getElem (Nat.lt_of_lt_of_le hi eD.le)⟩
 obtain⟨y,gq⟩:=p
 have bg:(nm.take np)[i]?=some (y,gq):=(List.getElem?_take_of_lt hi).trans aQ
 have F':(((nm.take np).map (·.1)).zip vals)[i]?=some (y,w):=Lk (by rw[List.getElem?_map,bg];rfl) hw
 have Ga:((((nm.take np).map (·.1)).zip vals).map (·.1)).Nodup:=by
  rw[List.map_fst_zip (by rw[hlen,List.length_map];exact List.length_take_le ..),List.map_take]
  exact eD.bk.sublist (List.take_sublist ..)
 have oz:=lookup_at eD.bk aQ
 refine⟨y,by unfold nameAt;rw[aQ];rfl,(eD.kinds (y,gq) (List.mem_of_getElem? bg)).elim (fun h=> ?_) fun h=> ?_⟩
 ·cases h
  exact .inl ⟨(e.nf y).trans oz,Dz _ _ _ i y w Ga F' ((e.nf y).trans oz)⟩
 ·cases h
  refine e.cellOf oz fun b4 jP aU=> .inr ⟨.inl ((e.nf y).trans oz),b4,jP,?_⟩
  rw[Dx _ _ _ i y w Ga F' (by rw[e.nf,oz];exact fun h=>nomatch h)] at aU
  exact aU
theorem Ent.J_(e:Ent nm np vals s s1 env){f:Addr}{body:List Stmt}(eD:FnAt c f nm np body)(hlen:vals.length=np)(I:aX c J H s)(r:bL s.heap J args vals):b_ c nm ⟨env,env.locals::env.cells.map (·.2)⟩ J (f_ args) H s1:=by
 refine⟨I.grow e.x.toInCall.keep e.size,⟨fun b az=>⟨(I.fresh (e.own az)).1,(I.fresh (e.own az)).2,?_⟩,_,e.x.toInCall.ns,(I.fresh (Nat.le_of_eq e.bH.symm)).1,fun i u h=> ?_⟩,List.mem_cons_self,fun y aQ=> ?_,fun _=>e.x.apart⟩
 ·refine(List.mem_cons.mp az).elim (fun h=> ?_) fun h=> ?_
  ·obtain⟨o,av,ep,aT,hd,_⟩:=e.x.toInCall.ns
   exact⟨o,h▸aT, .inl ⟨av,ep,hd⟩⟩
  ·obtain⟨o,aT,hd⟩:=e.My eD.bk h
   exact⟨o,aT, .inr hd⟩
 ·obtain⟨w,hw,cR⟩:=r.get h
  obtain⟨y,ag,ah⟩:=e.bound eD hlen hw
  exact⟨y,w,ag,ah,cR.mono (fun a o q _=>e.x.toInCall.keep a o q) fun _ _ q=>q⟩
 ·exact e.cellOf aQ fun b4 jP aU=>⟨(e.nf y).trans aQ,b4,_,jP,aU,List.mem_cons_of_mem _ (List.mem_map.mpr ⟨(y,b4),mem_of_lookup jP,rfl⟩)⟩
theorem FnAt.names{f:Addr}{body:List Stmt}(eD:FnAt c f nm np body){x:Str×Value}(af:x∈((nm.take np).map (·.1)).zip vals):nm.lookup x.1=some .local∨nm.lookup x.1=some .cell:=by
 obtain⟨p,aH,Q'⟩:=List.mem_map.mp (List.of_mem_zip af).1
 obtain⟨i,hi⟩:=List.getElem?_of_mem (List.mem_of_mem_take aH)
 rw[←Q',lookup_at eD.bk hi]
 exact(eD.kinds p aH).imp (congrArg some) (congrArg some)
theorem xi(ok:c.Ok){f:Addr}{body:List Stmt}(eD:FnAt c f nm np body){k:Nat}(I:aX c J H s)(r:bL s.heap J args vals)(hlen:args.length=np){A:Around}(a:cz (k+1) A){R:Result→Shared→Prop}
 (az:∀(fr:cX) (s1:Shared),dw nm fr→b_ c nm fr J (f_ args) H s1→Step [] J J s s1→fr.env.frame=some fr.env.locals→(∀b,b∈fr.own→s.heap.objs.size≤b)→cz k (A.deeper fr.env)→
  wpAny (model c.prog c.w) (A.deeper fr.env) (execs body fr.env) (fun f s'=>R (.ok (.ret (match f with| .ret v=>v|_=> .none))) s')
   (fun e s'=>wpAny (model c.prog c.w) (A.deeper fr.env) (leaving fr.env e) (fun _ fd=>R (.error e) fd) (fun jK fd=>R (.error jK) fd) s') s1):
 codeAny (model c.prog c.w) A (.call (.ref f) ⟨vals,[]⟩) R s:=by
 obtain⟨r6,nu,ut,name,qual,params,scope,px,p5,doc,pm,an,od,q9,aT,rx,rfl,FI,wq,QH,Qj⟩:=eD.it
 have F8:vals.length=np:=r.length.symm.trans hlen
 have X:c.K.In s.heap:=ok.K.keeps I.keep
 refine codeAny_call_function (body:=body) a.depth (X _ _ aT) rfl wq QH rfl (codeRec_of X rx) (Qj s vals I.keep F8 _ _ _ _ ?_)
 refine wpAny_newFunctionEnv_cells FI (fun x af=>(eD.names af).imp id fun q=>⟨q,DH _ _ _ _ (.inl q)⟩) fun env he s1 x=> ?_
 have e:Ent scope.names np vals s s1 env:=⟨by rw[he];rfl,by rw[he];rfl,fun y=>by rw[he];rfl,x⟩
 refine⟨ok.nolimit.keeps fun b o h=>e.x.toInCall.keep _ _ (I.keep b o h),codeAny_func ?_⟩
 exact az ⟨env,env.locals::env.cells.map (·.2)⟩ s1 ⟨by rw[he];exact FI,by rw[he];rfl,by rw[he];rfl,by rw[he];rfl,fun y aQ=>(e.nf y).trans aQ,fun y aQ=>(e.nf y).trans aQ,fun y aQ=>aQ.imp (e.nf y).trans (e.nf y).trans⟩ (e.J_ eD F8 I r) e.step
  (by rw[he];rfl) (fun b az=>e.own az) a.deeper
end
theorem cU{c:a9}(ok:c.Ok){f:Addr}{nm:a5}{np:Nat}{body:List Stmt}(eD:FnAt c f nm np body){k:Nat}{D:b9}(az:lS c nm k body D):ck c (k+1) f (cD np D):=by
 intro J H s args vals I r v H' d A a R q
 refine c3 d fun hlen d=>pq d fun a3 ba H1 cL d=>xi ok eD I r hlen a fun fr s1 aL bD j0 _ own cp=>az fr aL J _ H s1 bD _ _ _ cL _ cp _ _ fun aw s' v' c4 eL da=> ?_
 have bo:Step fr.own J aw s s':=j0.weaken.trans eL
 have st:Step [] J aw s s':=⟨bo.ext,fun b o e h _=>bo.ey b o e h fun q=>absurd (Heap.lt_size e) (Nat.not_lt.mpr (own b q)),bo.size,bo.gens,bo.os⟩
 cases a3 with
 |next=>cases da;exact KE.of (Q:=fun w s=>R (.ok (.ret w)) s) d q aw s' _ c4.h st .mkNone
 |ret u=>obtain⟨w,rfl,cR⟩:=da;exact KE.of (Q:=fun w s=>R (.ok (.ret w)) s) d q aw s' _ c4.h st cR
noncomputable def B_(H:ao)(f:List V→Option (List PyData)):V→Option PyData
 | .none=>some .none
 | .bool b=>some (.bool b)
 | .int i=>some (.int i)
 | .str x=>some (.str x)
 | .tup xs=>(f xs).map .tuple
 | .loc l=>(h_ H[l]?).bind fun xs=>(f xs).map .list
 | .ins _ _=>none
 | .st _=>none
noncomputable def toD(H:ao):Nat→V→Option PyData
 |0=>B_ H fun _=>none
 |n+1=>B_ H fun xs=>xs.mapM (toD H n)
theorem qu{H:ao}{l n:Nat}{xs:List V}(h:H[l]?=some (.list xs)):toD H (n+1) (.loc l)=(xs.mapM (toD H n)).map .list:=by
 show(h_ H[l]?).bind _=_
 rw[h];rfl
noncomputable def mU(h:Heap)(w:Value)(d:PyData):Prop:=∃as,Reads h w d as
noncomputable def CP(h:Heap)(ws:List Value)(ds:List PyData):Prop:=∃as,ReadsAll h ws ds as
theorem U7{h:Heap}{J:List Addr}{f:V→Option PyData}(hf:∀v d w,f v=some d→aC h J v w→mU h w d){xs:List V}:∀{ds:List PyData} {ws:List Value},xs.mapM f=some ds→bL h J xs ws→CP h ws ds:=by
 induction xs with
 |nil=>
  intro ds ws e r
  obtain rfl:=Option.some.inj e
  rw[bL] at r;subst r
  exact⟨_, .nil⟩
 |cons x xs aK=>
  intro ds ws e r
  rw[List.mapM_cons] at e
  refine bQ e fun d af e=>bQ e fun XZ wK e=> ?_
  obtain rfl:=Option.some.inj e
  rw[bL] at r
  obtain⟨w,t,rfl,a,b⟩:=r
  exact(hf _ _ _ af a).elim fun _ aP=>(aK wK b).elim fun _ az=>⟨_, .cons aP az⟩
section
variable{c:a9}{J:List Addr}{H:ao}{s:Shared}
theorem Ju(I:aX c J H s){f:List V→Option (List PyData)}(hf:∀xs ds ws,f xs=some ds→bL s.heap J xs ws→CP s.heap ws ds){v:V}{d:PyData}{w:Value}(e:B_ H f v=some d)(r:aC s.heap J v w):mU s.heap w d:=by
 cases v with
 |none=>exact Option.some.inj e▸r.lE (G:=fun w=>mU _ w _) ⟨_, .none⟩
 |bool b=>exact Option.some.inj e▸r.lZ (G:=fun w=>mU _ w _) ⟨_, .bool _⟩
 |int i=>exact Option.some.inj e▸r.fM (G:=fun w=>mU _ w _) fun _=>⟨_, .int _ _⟩
 |str x=>exact Option.some.inj e▸r.ff (G:=fun w=>mU _ w _) fun _=>⟨_, .str _ _⟩
 |tup xs=>exact dq e fun ds e jK=>jK▸r.tupK (G:=fun w=>mU _ w _) fun a vs k aT rs=>(hf _ _ _ e rs).elim fun _ du=>⟨_, .tuple aT rfl rfl du⟩
 |loc l=>exact bQ e fun xs au e=>dq e fun ds e jK=>jK▸r.gr (G:=fun w=>mU _ w _) fun a aP=>I.hL aP (iv au) fun vs k aT rs=>(hf _ _ _ e rs).elim fun _ du=>⟨_, .list aT rfl rfl du⟩
 |ins C l=>exact cn e
 |st v=>exact cn e
theorem uC(I:aX c J H s):∀(n:Nat) (v:V) (d:PyData) (w:Value),toD H n v=some d→aC s.heap J v w→mU s.heap w d
 |0,_,_,_,e,r=>Ju I (fun _ _ _ e _=>cn e) e r
 |n+1,_,_,_,e,r=>Ju I (fun _ _ _ e r=>U7 (uC I n) e r) e r
end
noncomputable def qB(H:ao)(a b:V):Option Bool:=(toD H 8 a).bind fun x=>(toD H 8 b).bind fun y=>if SeqAt.shaped x&&SeqAt.shaped y then some (PyData.eqv x y)else none
noncomputable def vEq(H:ao)(a b:V):Option Bool:=match a with
 | .int x=>(match b with
  | .int y=>some (x==y)
  | .str _=>some false
  | .none=>some false
  |_=>qB H a b)
 | .str x=>(match b with
  | .str y=>some (x==y)
  | .int _=>some false
  | .none=>some false
  |_=>qB H a b)
 | .bool x=>(match b with
  | .bool y=>some (x==y)
  |_=>qB H a b)
 | .none=>(match b with
  | .none=>some true
  | .int _=>some false
  | .str _=>some false
  |_=>qB H a b)
 |_=>qB H a b
noncomputable def wQ:V→Option Bool
 | .none=>some true
 | .st _=>none
 |_=>some false
noncomputable def Cf(o:Option Bool)(b:V):Option Bool:=(wQ b).bind fun z=>if z=true then o else none
noncomputable def Ce(a b:V):Option Bool:=match a with
 | .none=>wQ b
 | .bool x=>(match b with
  | .bool y=>some (x==y)
  |_=>Cf (some false) b)
 |_=>Cf (wQ a) b
noncomputable def cH(x:Str):List (Str×V)→Option V
 |[]=>none
 |(y,v)::r=>if y=x then some v else cH x r
noncomputable def RF(x:Int):List (Int×V)→Option V
 |[]=>none
 |(y,v)::r=>if y=x then some v else RF x r
noncomputable def RJ(y:Str)(H:ao):V→Option Bool
 | .str x=>some (!(Builtin.Str.occurrences x y 0 x.length 1).isEmpty)
 | .loc l=>(lW H[l]?).map fun ps=>(cH y ps).isSome
 |_=>none
noncomputable def Dm:PyData→Option (List PyData)| .list xs=>some xs|_=>none
theorem MA{d:PyData}{l:List PyData}(e:Dm d=some l):d= .list l:=by cases d<;>first|exact cn e|exact congrArg _ (Option.some.inj e)
noncomputable def RI(H:ao)(b:V):Option Bool:=(lb b).bind fun _=>(toD H 8 b).bind fun d=>(Dm d).bind fun xs=>
 if PyData.canLayAll0 xs&&decide (PyData.depthAll xs≤64)then some (xs.any fun y=>PyData.eqv y .none)else none
noncomputable def xV(H:ao)(a b:V):Option Bool:=match a with
 | .str y=>RJ y H b
 | .none=>RI H b
 |_=>none
noncomputable def qj(x y:Str):Bool:=decide (x.cps.toList<y.cps.toList)
noncomputable def r7(f:Int→Int→Bool)(a b:V):Option Bool:=(jk a).bind fun x=>(jk b).map fun y=>f x y
noncomputable def Bq(f:Str→Str→Bool)(a b:V):Option Bool:=(km a).bind fun x=>(km b).map fun y=>f x y
noncomputable def W8(a b:V):Option Bool:=match a with
 | .int _=>r7 (fun x y=>decide (x≤y)) a b
 |_=>Bq (fun x y=> !(qj y x)) a b
noncomputable def hW(op:CmpOp)(a b:V)(H:ao):Option Bool:=match op with
 | .Eq=>vEq H a b
 | .NotEq=>(vEq H a b).map (!·)
 | .Is=>Ce a b
 | .IsNot=>(Ce a b).map (!·)
 | .In=>xV H a b
 | .NotIn=>(xV H a b).map (!·)
 | .Lt=>r7 (fun x y=>decide (x<y)) a b
 | .LtE=>W8 a b
 | .Gt=>r7 (fun x y=>decide (y<x)) a b
 | .GtE=>r7 (fun x y=>decide (y≤x)) a b
section
variable{c:a9}{J:List Addr}{H:ao}{s:Shared}{A:Around}{E:Value→Shared→Prop}{Q:Value→Shared→Prop}{a b:V}{eN d6:Value}{r:Bool}
noncomputable def h2(c:a9)(A:Around)(s:Shared)(eN d6:Value)(r:Bool):Prop:=∀(E Q:Value→Shared→Prop),
 (Q (.bool r) s→wpAny (model c.prog c.w) A (compareOp .Eq eN d6) Q E s)∧(Q (.bool (!r)) s→wpAny (model c.prog c.w) A (compareOp .NotEq eN d6) Q E s)
theorem uT(I:aX c J H s)(e:qB H a b=some r)(du:aC s.heap J a eN)(dv:aC s.heap J b d6)(bR:A.units+64<cLine):h2 c A s eN d6 r:=
 bQ e fun x af e=>bQ e fun y aQ e=>c3 e fun aY e=>(uC I _ _ _ _ af du).elim fun as bl=>(uC I _ _ _ _ aQ dv).elim fun bs bN=>Option.some.inj e▸
  fun _ _=>⟨fun q=>eq_dataH bl bN (Bool.and_eq_true_iff.mp aY).1 (Bool.and_eq_true_iff.mp aY).2 bR q,fun q=>ne_dataH bl bN (Bool.and_eq_true_iff.mp aY).1 (Bool.and_eq_true_iff.mp aY).2 bR q⟩
theorem l3{da:Bool}(ag:SeqAt.RcAt A s eN d6 da)(ah:SeqAt.RcNeAt A s eN d6 (!da))(e:some da=some r):h2 c A s eN d6 r:=
 Option.some.inj e▸fun _ _=>⟨fun q=>cmp_ofEq (ag _ _ _ _ q),fun q=>cmp_ofNotEq (ah _ _ _ _ q)⟩
theorem KP(I:aX c J H s)(e:vEq H a b=some r)(du:aC s.heap J a eN)(dv:aC s.heap J b d6)(bR:A.units+64<cLine):h2 c A s eN d6 r:=by
 cases a with
 |int x=>
  refine du.fM (G:=fun w=>h2 c A s w d6 r) fun t=> ?_
  cases b with
  |int y=>exact dv.fM (G:=fun w=>h2 c A s _ w r) fun u=>l3 (SeqAt.RcAt.int_int _ _ _ _) (SeqAt.RcNeAt.int_int _ _ _ _) e
  |str y=>exact dv.ff (G:=fun w=>h2 c A s _ w r) fun u=>l3 (SeqAt.RcAt.int_str _ _ _ _) (SeqAt.RcNeAt.int_str _ _ _ _) e
  |none=>exact dv.lE (G:=fun w=>h2 c A s _ w r) (l3 (SeqAt.RcAt.int_none _ _) (SeqAt.RcNeAt.int_none _ _) e)
  |_=>exact uT I e .mkInt dv bR
 |str x=>
  refine du.ff (G:=fun w=>h2 c A s w d6 r) fun t=> ?_
  cases b with
  |int y=>exact dv.fM (G:=fun w=>h2 c A s _ w r) fun u=>l3 (SeqAt.RcAt.str_int _ _ _ _) (SeqAt.RcNeAt.str_int _ _ _ _) e
  |str y=>exact dv.ff (G:=fun w=>h2 c A s _ w r) fun u=>l3 (SeqAt.RcAt.str_str _ _ _ _) (SeqAt.RcNeAt.str_str _ _ _ _) e
  |none=>exact dv.lE (G:=fun w=>h2 c A s _ w r) (l3 (SeqAt.RcAt.str_none _ _) (SeqAt.RcNeAt.str_none _ _) e)
  |_=>exact uT I e .mkStr dv bR
 |bool x=>
  refine du.lZ (G:=fun w=>h2 c A s w d6 r) ?_
  cases b with
  |bool y=>exact dv.lZ (G:=fun w=>h2 c A s _ w r) (l3 (SeqAt.RcAt.bool_bool _ _) (SeqAt.RcNeAt.bool_bool _ _) e)
  |_=>exact uT I e .oF dv bR
 |none=>
  refine du.lE (G:=fun w=>h2 c A s w d6 r) ?_
  cases b with
  |none=>exact dv.lE (G:=fun w=>h2 c A s _ w r) (l3 SeqAt.RcAt.none_none SeqAt.RcNeAt.none_none e)
  |int y=>exact dv.fM (G:=fun w=>h2 c A s _ w r) fun u=>l3 (SeqAt.RcAt.none_int _ _) (SeqAt.RcNeAt.none_int _ _) e
  |str y=>exact dv.ff (G:=fun w=>h2 c A s _ w r) fun u=>l3 (SeqAt.RcAt.none_str _ _) (SeqAt.RcNeAt.none_str _ _) e
  |_=>exact uT I e .mkNone dv bR
 |_=>exact uT I e du dv bR
noncomputable def gh(eN d6:Value)(r:Bool):Prop:=PySem.plainIs eN d6=true∧r=(eN==d6)
theorem Ap{h:Heap}(e:wQ a=some r)(du:aC h J a eN):gh eN .none r∧gh .none eN r:=by
 cases a with
 |none=>exact Option.some.inj e▸du.lE (G:=fun w=>gh w .none _∧gh .none w _) ⟨⟨rfl,rfl⟩,rfl,rfl⟩
 |bool _=>exact Option.some.inj e▸du.lZ (G:=fun w=>gh w .none _∧gh .none w _) ⟨⟨rfl,rfl⟩,rfl,rfl⟩
 |int _=>exact Option.some.inj e▸du.fM (G:=fun w=>gh w .none _∧gh .none w _) fun _=>⟨⟨rfl,rfl⟩,rfl,rfl⟩
 |str _=>exact Option.some.inj e▸du.ff (G:=fun w=>gh w .none _∧gh .none w _) fun _=>⟨⟨rfl,rfl⟩,rfl,rfl⟩
 |tup _=>exact Option.some.inj e▸du.tupK (G:=fun w=>gh w .none _∧gh .none w _) fun _ _ _ _ _=>⟨⟨rfl,rfl⟩,rfl,rfl⟩
 |loc _=>exact Option.some.inj e▸du.gr (G:=fun w=>gh w .none _∧gh .none w _) fun _ _=>⟨⟨rfl,rfl⟩,rfl,rfl⟩
 |ins _ _=>exact Option.some.inj e▸du.Am (G:=fun w=>gh w .none _∧gh .none w _) fun _ _ _ _=>⟨⟨rfl,rfl⟩,rfl,rfl⟩
 |st _=>exact cn e
theorem KR{h:Heap}{o:Option Bool}(k:∀r,o=some r→gh eN .none r)(e:Cf o b=some r)(dv:aC h J b d6):gh eN d6 r:=
 bQ e fun z hz e=>c3 e fun gp e=>by rw[eq_of_beq (((Ap hz dv).1.2).symm.trans gp)];exact k r e
theorem xW{h:Heap}(e:Ce a b=some r)(du:aC h J a eN)(dv:aC h J b d6):gh eN d6 r:=by
 cases a with
 |none=>exact du.lE (G:=fun w=>gh w d6 r) (Ap e dv).2
 |bool x=>
  refine du.lZ (G:=fun w=>gh w d6 r) ?_
  cases b with
  |bool y=>exact dv.lZ (G:=fun w=>gh _ w r) ⟨rfl,(Option.some.inj e).symm.trans (by cases x<;>cases y<;>rfl)⟩
  |_=>exact KR (o:=some false) (fun r e=>⟨rfl,(Option.some.inj e).symm⟩) e dv
 |_=>exact KR (fun r e=>(Ap e du).1) e dv
inductive g9(h:Heap)(J:List Addr):Option V→Option Value→Prop
 |nil:g9 h J none none
 |one {v:V} {w:Value}:aC h J v w→g9 h J (some v) (some w)
theorem g9.isSome{h:Heap}{J:List Addr}{o:Option V}{p:Option Value}(r:g9 h J o p):o.isSome=p.isSome:=by cases r<;>rfl
theorem g9.BY{h:Heap}{J:List Addr}{v:V}{p:Option Value}{G:Option Value→Prop}(r:g9 h J (some v) p)(k:∀w,aC h J v w→G (some w)):G p:=by
 cases r with
 |one q=>exact k _ q
theorem JL{w:World}{prog:Program}{h:Heap}{J:List Addr}:∀{ps:List (Str×V)} {av:List DictEntry},fl w h J ps av→(∀e∈av,∃k,(strKind prog w).is k e.key=true∧e.hash=(strKind prog w).hash k)∧
 ∀x,g9 h J (cH x ps) ((av.find? fun e=>(strKind prog w).is x e.key).map (·.val)):=by
 intro ps
 induction ps with
 |nil=>intro av r;obtain rfl:av=[]:=r;exact⟨fun _ h=>(nomatch h),fun x=> .nil⟩
 |cons p ps aK=>
  intro av r
  obtain⟨t,u,da,rfl,a,b⟩:=r
  refine⟨fun e he=>(List.mem_cons.mp he).elim (fun h=>h▸⟨p.1,strKind_is prog w p.1 t,rfl⟩) ((aK b).1 e),fun x=> ?_⟩
  have q:=(aK b).2 x
  show g9 h J (if p.1=x then some p.2 else cH x ps) _
  rw[List.find?_cons]
  by_cases af:p.1=x
  ·subst af
   rw[if_pos rfl,show(strKind prog w).is p.1 (Value.str p.1 t)=true from strKind_is prog w p.1 t]
   exact .one a
  ·rw[if_neg af,show(strKind prog w).is x (Value.str p.1 t)=false from Bool.eq_false_iff.mpr fun bU=>af ((strKind prog w).inj _ _ _ (strKind_is prog w p.1 t) bU)]
   exact q
theorem AT(I:aX c J H s){l:Nat}{a:Addr}{ps:List (Str×V)}(aP:J[l]?=some a)(au:H[l]?=some (.aS ps)):
 ∃f,s.heap.MapOf (strKind c.prog c.w) a f∧∀x,g9 s.heap J (cH x ps) (f x):=
 I.ql aP au fun av n ah r _=>⟨fun x=>findBy (strKind c.prog c.w).is av.toArray x,⟨_,av.toArray,n,ah,⟨rfl,rfl,rfl⟩,rfl,fun e he=>(JL (prog:=c.prog) r).1 e (List.mem_toArray.mp he),fun _=>rfl⟩,fun x=>by
  show g9 s.heap J (cH x ps) ((av.toArray.find? _).map _)
  rw[List.find?_toArray];exact(JL (prog:=c.prog) r).2 x⟩
theorem qb(ok:c.Ok)(I:aX c J H s){a:Addr}(aP:a∈J):(a==sysModules)=false:=by
 rcases I.iH a aP with ag|ag
 case inr=>exact ag.2
 obtain⟨o,_,_,aT,_⟩:=ok.g
 have ah:mainGlobals<c.base.objs.size:=Heap.lt_size aT
 have aE:sysModules<mainGlobals:=by decide
 exact beq_eq_false_iff_ne.mpr (Nat.ne_of_gt (Nat.lt_of_lt_of_le (Nat.lt_trans aE ah) ag))
noncomputable def sJ(c:a9)(A:Around)(s:Shared)(eN d6:Value)(r:Bool):Prop:=∀(E Q:Value→Shared→Prop),
 ((∀bt,Q (.bool r) {s with toks:=bt})→wpAny (model c.prog c.w) A (compareOp .In eN d6) Q E s)∧((∀bt,Q (.bool (!r)) {s with toks:=bt})→wpAny (model c.prog c.w) A (compareOp .NotIn eN d6) Q E s)
theorem KQ(ok:c.Ok)(I:aX c J H s)(e:xV H a b=some r)(du:aC s.heap J a eN)(dv:aC s.heap J b d6)(bR:A.units+66<cLine):sJ c A s eN d6 r:=by
 cases a with
 |str y=>
  refine du.ff (G:=fun w=>sJ c A s w d6 r) fun t=> ?_
  cases b with
  |str x=>exact dv.ff (G:=fun w=>sJ c A s _ w r) fun u=>Option.some.inj e▸fun _ _=>⟨fun q=>PyProof.Rows.in_str (q s.toks),fun q=>PyProof.Rows.notIn_str (q s.toks)⟩
  |loc l=>
   refine dv.gr (G:=fun w=>sJ c A s _ w r) fun d hd=>dq e fun ps au e=>(AT I hd (pj au)).elim fun f hf=> ?_
   rw[show r=(f y).isSome from e.trans (hf.2 y).isSome]
   exact fun _ _=>⟨fun q=>wpAny_in_of (strKind_is c.prog c.w y t) (qb ok I (List.mem_of_getElem? hd)) hf.1 (q _),fun q=>wpAny_notIn_of (strKind_is c.prog c.w y t) (qb ok I (List.mem_of_getElem? hd)) hf.1 (q _)⟩
  |_=>exact cn e
 |none=>exact du.lE (G:=fun w=>sJ c A s w d6 r) (bQ e fun _ _ e=>bQ e fun d af e=>bQ e fun xs hd e=>c3 e fun aY e=>(uC I _ _ _ _ (MA hd▸af) dv).elim fun as bl=>Option.some.inj e▸by
  obtain⟨ag,ah⟩:=Bool.and_eq_true_iff.mp aY
  have aZ:A.units+1+min (PyData.depthAll xs) (PyData.depth .none)<cLine:=Nat.lt_of_le_of_lt (Nat.add_le_add_left (Nat.le_trans (Nat.min_le_left ..) (of_decide_eq_true ah)) _) (Nat.lt_of_le_of_lt (by rw[Nat.add_assoc];exact Nat.add_le_add_left (by decide) _) bR)
  exact fun _ _=>⟨fun q=>SeqAt.in_list_reads bl .none ag rfl aZ (q s.toks),fun q=>SeqAt.notIn_list_reads bl .none ag rfl aZ (q s.toks)⟩)
 |_=>exact cn e
theorem wP{f:Int→Int→Bool}{G:Value→Value→Prop}(e:r7 f a b=some r)(du:aC s.heap J a eN)(dv:aC s.heap J b d6)(k:∀x y t u,f x y=r→G (.int x t) (.int y u)):G eN d6:=
 bQ e fun x af e=>dq e fun y aQ e=>aC.fM (G:=fun w=>G w d6) (k' af▸du) fun t=>aC.fM (G:=fun w=>G _ w) (k' aQ▸dv) fun u=>k x y t u e.symm
theorem Wf{f:Str→Str→Bool}{G:Value→Value→Prop}(e:Bq f a b=some r)(du:aC s.heap J a eN)(dv:aC s.heap J b d6)(k:∀x y t u,f x y=r→G (.str x t) (.str y u)):G eN d6:=
 bQ e fun x af e=>dq e fun y aQ e=>aC.ff (G:=fun w=>G w d6) (kn af▸du) fun t=>aC.ff (G:=fun w=>G _ w) (kn aQ▸dv) fun u=>k x y t u e.symm
theorem Jy(bR:A.units+66<cLine):A.units+64<cLine:=Nat.lt_of_succ_lt (Nat.lt_of_succ_lt bR)
theorem qA(ok:c.Ok)(I:aX c J H s){op:CmpOp}(e:hW op a b H=some r)(du:aC s.heap J a eN)(dv:aC s.heap J b d6)(bR:A.units+66<cLine)
 (q:∀bt,Q (.bool r) {s with toks:=bt}):wpAny (model c.prog c.w) A (compareOp op eN d6) Q E s:=by
 have hr:Q (.bool r) s:=q s.toks
 cases op with
 |Eq=>exact(KP I e du dv (Jy bR) E Q).1 hr
 |NotEq=>exact dq e fun da e h=>(KP I e du dv (Jy bR) E Q).2 (h▸hr)
 |Is=>exact wpAny_is_plain (xW e du dv).1 ((xW e du dv).2▸hr)
 |IsNot=>exact dq e fun da e h=>wpAny_isNot_plain (xW e du dv).1 ((xW e du dv).2▸h▸hr)
 |In=>exact(KQ ok I e du dv bR E Q).1 q
 |NotIn=>exact dq e fun da e h=>(KQ ok I e du dv bR E Q).2 (h▸q)
 |Lt=>exact wP (G:=fun u v=>wpAny _ A (compareOp .Lt u v) Q E s) e du dv fun _ _ _ _ h=>lt_int (h▸hr)
 |LtE=>
  cases a with
  |int x=>exact wP (G:=fun u v=>wpAny _ A (compareOp .LtE u v) Q E s) (show r7 (fun x y=>decide (x≤y)) (.int x) b=_ from e) du dv fun _ _ _ _ h=>le_int (h▸hr)
  |str x=>exact Wf (G:=fun u v=>wpAny _ A (compareOp .LtE u v) Q E s) (show Bq (fun x y=> !(qj y x)) (.str x) b=_ from e) du dv fun _ _ _ _ h=>P.le_str (h▸hr)
  |_=>exact cn e
 |Gt=>exact wP (G:=fun u v=>wpAny _ A (compareOp .Gt u v) Q E s) e du dv fun _ _ _ _ h=>gt_int (h▸hr)
 |GtE=>exact wP (G:=fun u v=>wpAny _ A (compareOp .GtE u v) Q E s) e du dv fun _ _ _ _ h=>ge_int (h▸hr)
end
theorem cz.room{k:Nat}{A:Around}(h:cz k A):A.units+66<cLine:=
 Nat.lt_of_le_of_lt (Nat.add_le_add_right (Nat.le_trans (Nat.le_add_right ..) (Nat.le_of_lt h.2.1)) 66) (Nat.lt_of_lt_of_le (by decide:9800+66<9900) (by decide+kernel))
noncomputable def eP(op:CmpOp)(D R:a0):a0:=gQ D R fun x y aG=>(hW op x y aG).map fun b=>(.bool b,aG)
noncomputable def bq(op:CmpOp)(D R:a0):cK:=gQ D R fun x y aG=>(hW op x y aG).map fun b=>(b,aG)
noncomputable def lj(gX hq:CmpOp)(D R S:a0):cK:=cC D fun x=>cC R fun y σ aG=>(hW gX x y aG).bind fun b=>match b with
 |true=>cC S (fun z _ H3=>(hW hq y z H3).map fun b=>(b,H3)) σ aG
 |false=>some (false,aG)
section
variable{c:a9}{nm:a5}{k:Nat}
theorem two{l r:Expr}{D R:a0}(au:bA c nm k l D)(aZ:bA c nm k r R){fr:cX}(aL:dw nm fr){J:List Addr}{σ:aN}{H H1 aG:ao}{s:Shared}(I:aX c J H s)(F:dm c nm fr J σ s){x y:V}
 (cC:D σ H=some (x,H1)) (gQ:R σ H1=some (y,aG)) {A:Around} (a:cz k A) {E:Value→Shared→Prop} {T:Value→Value→Shared→Prop}
 (q:∀aw s' nN j6,aX c aw aG s'→dm c nm fr aw σ s'→Step [] J aw s s'→aC s'.heap aw x nN→aC s'.heap aw y j6→T nN j6 s'):
 wpAny (model c.prog c.w) A (eval l fr.env) (fun u s1=>wpAny (model c.prog c.w) A (eval r fr.env) (fun v s2=>T u v s2) E s1) E s:=
 au.at aL I F cC a fun cy s1 c1 br dO bo bl=>aZ.at aL br dO gQ a fun ct s2 dE bx eO bB bN=>q ct s2 c1 dE bx eO (bo.trans bB) (bl.step br bB) bN
theorem hO(ok:c.Ok){op:CmpOp}{l r:Expr}{D R:a0}{pos:Pos}(au:bA c nm k l D)(aZ:bA c nm k r R)(hm:behindInMarks op r=false:=by with_unfolding_all rfl):bA c nm k (.Compare l [op] [r] pos) (eP op D R):=
 fun _ aL _ _ _ _ I F _ _ d _ a _ _ q=>tc d fun _ _ _ _ ag ah az aR=>wpAny_Compare1 (two au aZ aL I F ag ah a fun ct _ _ _ bx _ bB bl bN=>qA ok bx az bl bN a.room fun _=>q ct _ _ bx.toks (bB.trans .toks) (aR▸ .oF)) hm
theorem b2(ok:c.Ok){op:CmpOp}{l r:Expr}{D R:a0}{pos:Pos}(au:bA c nm k l D)(aZ:bA c nm k r R)(hm:behindInMarks op r=false:=by with_unfolding_all rfl):h9 c nm k (.Compare l [op] [r] pos) (bq op D R):=
 fun _ aL _ _ _ _ I F _ _ d _ a _ _ q=>tc d fun _ _ _ _ ag ah az aR=>wpAny_isTrue_Compare1 (two au aZ aL I F ag ah a fun ct _ _ _ bx _ bB bl bN=>qA ok bx az bl bN a.room fun _=>wpAny_truthy_bool (aR▸q ct _ bx.toks (bB.trans .toks))) hm
theorem DR{gX hq:CmpOp}{D R S:a0}{σ:aN}{H H':ao}{v:Bool}{G:Prop}(d:lj gX hq D R S σ H=some (v,H'))(k:∀x H1 y aG b,D σ H=some (x,H1)→R σ H1=some (y,aG)→hW gX x y aG=some b→
 ((b=false→v=false∧aG=H')∧(b=true→∀G:Prop,(∀z,S σ aG=some (z,H')→hW hq y z H'=some v→G)→G))→G):G:=
 dp d fun x H1 ag d=>dp d fun y aG ah d=>bQ d fun b az d=>k x H1 y aG b ag ah az (by
  cases b with
  |false=>exact⟨(fun _=>⟨(congrArg Prod.fst (Option.some.inj d)).symm,congrArg Prod.snd (Option.some.inj d)⟩),(fun h=>nomatch h)⟩
  |true=>exact⟨(fun h=>nomatch h),fun _ G k=>pn d k⟩)
theorem BK(ok:c.Ok){gX hq:CmpOp}{l r t:Expr}{D R S:a0}{pos:Pos}(au:bA c nm k l D)(aZ:bA c nm k r R)(bg:bA c nm k t S)(hm:lastMarks [gX,hq] [r,t]=false:=by with_unfolding_all rfl):
 h9 c nm k (.Compare l [gX,hq] [r,t] pos) (lj gX hq D R S):=by
 intro fr aL J σ H s I F v H' d A a Q E q
 refine DR d fun x H1 y aG b ag ah az aB=>isTrue_chain (au.at aL I F ag a fun cy s1 c1 br dO bo bl=> ?_) hm
 refine wpAny_bind (wpAny_holding (aZ.at aL br dO ah a fun ct s2 dE bx eO bB bN=>wpAny_bind (wpAny_standAt (wpAny_bind (wpAny_holding ?_)))))
 refine qA ok bx az (bl.step br bB) bN a.room fun bt=>wpAny_bind (wpAny_release (wpAny_bind (wpAny_holding (wpAny_truthy_bool ?_))))
 cases b with
 |false=>
  obtain⟨aR,zL⟩:=aB.1 rfl
  exact wpAny_pure (aR▸q ct _ (zL▸bx.toks) ((bo.trans bB).trans .toks))
 |true=>
  refine aB.2 rfl _ fun z aE tI=>wpAny_bind (wpAny_holding (bg.at aL (bx.toks (t:=bt)) (eO.toks (t:=bt)) aE a fun ec s3 qD c0 jE cB fq=>wpAny_bind (wpAny_standAt (wpAny_bind (wpAny_operate' ?_)))))
  exact qA ok c0 tI (aC.step (s:={s2 with toks:=bt}) bx.toks cB bN) fq a.room fun bt=>wpAny_holding (wpAny_truthy_bool (q ec _ c0.toks ((((bo.trans bB).trans .toks).trans cB).trans .toks)))
end
inductive f7(c:a9)(nm:a5)(k:Nat):List Expr→List a0→Prop
 |nil:f7 c nm k [] []
 |cons {e:Expr} {av:List Expr} {D:a0} {bb:List a0}:bA c nm k e D→f7 c nm k av bb→(∀rest env,starEach (e::rest) env=(false,eval e env)::starEach rest env)→f7 c nm k (e::av) (D::bb)
theorem f7.ai{c:a9}{nm:a5}{k:Nat}{e:Expr}{av:List Expr}{D:a0}{bb:List a0}(h:bA c nm k e D)(r:f7 c nm k av bb)(aY:∀rest env,starEach (e::rest) env=(false,eval e env)::starEach rest env:=by intro _ _;rfl):
 f7 c nm k (e::av) (D::bb):= .cons h r aY
noncomputable def eH:List a0→aN→ao→Option (List V×ao)
 |[]=>fun _ H=>some ([],H)
 |D::r=>cC D fun v=>cC (eH r) fun vs _ aG=>some (v::vs,aG)
theorem DV{D:a0}{bb:List a0}{σ:aN}{H H':ao}{vs:List V}{G:Prop}(d:eH (D::bb) σ H=some (vs,H'))(k:∀v H1 us,D σ H=some (v,H1)→eH bb σ H1=some (us,H')→vs=v::us→G):G:=
 dp d fun v H1 h d=>DN d fun us ag ah=>k v H1 us h ag ah
section
variable{c:a9}{nm:a5}{k:Nat}
theorem BM{fr:cX}(aL:dw nm fr){pos:Pos}:∀{av:List Expr} {bb:List a0},f7 c nm k av bb→∀{J:List Addr} {σ:aN} {H:ao} {s:Shared},aX c J H s→dm c nm fr J σ s→∀{vs H'},eH bb σ H=some (vs,H')→
 ∀{A:Around},cz k A→∀{Q:List Value→Shared→Prop} {E:Value→Shared→Prop},(∀aw s' ws,aX c aw H' s'→dm c nm fr aw σ s'→Step [] J aw s s'→bL s'.heap aw vs ws→Q ws s')→
  wpAny (model c.prog c.w) A (spliced (backTo pos (starEach av fr.env))) Q E s:=by
 intro av bb h
 induction h with
 |nil=>intro J σ H s I F vs H' d A a Q E q;exact lK d fun e aR=>spliced_nil (q J s [] (e▸I) F .refl (aR▸ .kO))
 | @cons e av D bb ag ah aY aK=>
  intro J σ H s I F vs H' d A a Q E q
  refine DV d fun v H1 us cL pN aR=> ?_
  rw[aY]
  exact spliced_cons (ag.at aL I F cL a fun cy s1 c1 br dO bo bl=>aK br dO pN a fun ct s2 ws bx eO bB bN=>q ct s2 _ bx eO (bo.trans bB) (aR▸ .ai (bl.step br bB) bN))
theorem xB{fr:cX}(aL:dw nm fr){pos:Pos}{f:Value}{av:List Expr}{bb:List a0}(h:f7 c nm k av bb){J:List Addr}{σ:aN}{H:ao}{s:Shared}(I:aX c J H s)(F:dm c nm fr J σ s){vs H'}(d:eH bb σ H=some (vs,H'))
 {A:Around} (a:cz k A) {Q:Args→Shared→Prop} {E:Value→Shared→Prop} (q:∀aw s' ws,aX c aw H' s'→dm c nm fr aw σ s'→Step [] J aw s s'→bL s'.heap aw vs ws→Q ⟨ws,[]⟩ s'):
  wpAny (model c.prog c.w) A (evalArgs f true (backTo pos (starEach av fr.env)) []) Q E s:=by
 cases h with
 |nil=>exact lK d fun e aR=>evalArgs_nil3 (q J s [] (e▸I) F .refl (aR▸ .kO))
 |cons ag ah aY=>
  have key:=BM (pos:=pos) aL (.cons ag ah aY) I F d a (E:=E) q
  rw[aY] at key⊢
  exact evalArgs_plain key
theorem uy{pos:Pos}{env:Env}{av:List Expr}{bb:List a0}(h:f7 c nm k av bb):(backTo pos (starEach av env)).any (·.1)=false:=by
 induction h with
 |nil=>rfl
 |cons _ r aY aK=>rw[aY];exact aK
end
noncomputable def fS(c:a9)(k:Nat)(w:Value)(F:bz):Prop:=
 ∀(J:List Addr) (H:ao) (s:Shared) (args:List V) (vals:List Value),aX c J H s→bL s.heap J args vals→∀v H',F args H=some (v,H')→
  ∀(A:Around),cz k A→∀(Q:Value→Shared→Prop) (E:Value→Shared→Prop),
   (∀aw s' u,aX c aw H' s'→Step [] J aw s s'→aC s'.heap aw v u→Q u s')→wpAny (model c.prog c.w) A (call w vals []) Q E s
theorem ck.call{c:a9}{k:Nat}{f:Addr}{F:bz}(h:ck c k f F):fS c k (.ref f) F:=
 fun J H s args vals I r v H' d A a Q E q=>wpAny_call (h J H s args vals I r v H' d A a _ fun aw s' w c4 st da=>q aw s' w c4 st da)
theorem ck.cl{c:a9}{k gV:Nat}{f:Addr}{F:bz}(h:ck c k f F)(aB:Nat.ble k gV=true):fS c gV (.ref f) F:=(h.up aB).call
noncomputable def Callee(c:a9)(w:Value):Prop:=∀{pos:Pos} {first:List Value} {args:List (Bool×Sem Value)} {A:Around} {E:Value→Shared→Prop} {s:Shared} {Q:Value→Shared→Prop},args.any (·.1)=false→
 wpAny (model c.prog c.w) A (evalArgs w true args []) (fun a hQ=>(∀b o,c.base.get? b=some o→hQ.heap.get? b=some o)∧wpAny (model c.prog c.w) A (call w (first++a.pos) a.kw) Q E hQ) E s→wpAny (model c.prog c.w) A (callWith pos w first args []) Q E s
theorem c7{c:a9}(id:String):Callee c (.builtin id):=fun aH h=>callWith_builtin aH (wpAny_mono h (fun _ _ x=>x.2) fun _ _ x=>x)
theorem q7{c:a9}(T:String):Callee c (.type T):=fun aH h=>PySem.callWith_type aH (wpAny_mono h (fun _ _ x=>x.2) fun _ _ x=>x)
theorem bJ{c:a9}(ok:c.Ok){w:Value}(aB:keepIn c.K w=true):Callee c w:=fun aH h=>
 callWith_of (P:=fun h=>c.K.In h) (by rw[aH];rfl) (keeps_K aB) (wpAny_mono h (fun _ _ x=>⟨ok.K.keeps x.1,x.2⟩) fun _ _ x=>x)
noncomputable def aO(F:bz)(bb:List a0):a0:=cC (eH bb) fun vs _ H1=>F vs H1
section
variable{c:a9}{nm:a5}{k:Nat}
theorem a'{x:Str}{p pos:Pos}{args:List Expr}{bb:List a0}{w:Value}{F:bz}(hf:bA c nm k (.Name x p) (aj (.st w)))(aU:Callee c w)(aP:f7 c nm k args bb)(h:fS c k w F):
 bA c nm k (.Call (.Name x p) args [] pos) (aO F bb):=by
 intro fr aL J σ H s I mK v H' d A a Q E q
 refine dp d fun vs H1 cL d=>Call_Name rfl (hf.at aL I mK rfl a fun cy s1 c1 br dO bo bl=> ?_)
 rw[bl.my]
 exact aU (uy aP) (xB aL aP br dO cL a fun ct s2 ws bx eO bB bN=>⟨bx.keep,h ct H1 s2 vs ws bx bN v H' d A a Q E fun ec s3 u c0 cB fq=>q ec s3 u c0 ((bo.trans bB).trans cB) fq⟩)
noncomputable def qV(c:a9)(k:Nat)(v:V)(H:ao)(name:Str)(w:Value)(first:Bool):Prop:=
 ∀(J:List Addr) (s:Shared) (u:Value),aX c J H s→aC s.heap J v u→∀(A:Around),cz k A→∀(e_:Sem Bool) (Q:Value×List Value→Shared→Prop) (E:Value→Shared→Prop),
  (∀bt,Q (w,if first then [u]else []) {s with toks:=bt})→wpAny (model c.prog c.w) A (getMethod u name e_) Q E s
noncomputable abbrev Sel:=V→ao→Option (bz×Bool)
noncomputable def mW(c:a9)(k:Nat)(name:Str)(sel:Sel):Prop:=∀v H F b,sel v H=some (F,b)→∃w,Callee c w∧qV c k v H name w b∧fS c k w F
noncomputable def b5(sel:Sel)(D:a0)(bb:List a0):a0:=cC D fun v σ H1=>(sel v H1).bind fun p=>cC (eH bb) (fun vs _ aG=>p.1 (if p.2 then v::vs else vs) aG) σ H1
theorem O3{n:Nat}{args:List (Bool×Sem Value)}(aH:args.any (·.1)=false)(aD:n<30):methodCallForm n args []=true:=by
 unfold methodCallForm
 rw[show args.all (!·.1)=true from List.all_eq_true.mpr fun x af=>by rw[Bool.eq_false_iff.mpr (List.any_eq_false.mp aH x af)];rfl]
 simp[aD]
theorem de{o:Expr}{name:Str}{apos pos:Pos}{args:List Expr}{D:a0}{bb:List a0}{sel:Sel}(aT:bA c nm k o D)(Ri:mW c k name sel)(aP:f7 c nm k args bb)
 (az:∀env whole,attributeBase o name env whole=whole:=by intro _ _;rfl) (aH:(apos.endLine==pos.line)=true:=by rfl) (aD:args.length+0<30:=by decide):
 bA c nm k (.Call (.Attribute o name apos) args [] pos) (b5 sel D bb):=by
 intro fr aL J σ H s I mK v H' d A a Q E q
 refine dp d fun x H1 ag d=>bQ d fun⟨F,b⟩ ah d=>dp d fun vs aG aE d=>(Ri x H1 F b ah).elim fun w hw=> ?_
 show wpAny _ _ (do
  let hM←attributeBase o name fr.env (eval o fr.env)
  standAt apos.atName
  methodCall o name apos pos fr.env hM (args.length+0) (backTo pos (starEach args fr.env)) []) Q E s
 rw[az]
 refine wpAny_bind (aT.at aL I mK ag a fun cy s1 mE br dO bo bl=>wpAny_bind (wpAny_standAt ?_))
 unfold methodCall
 rw[O3 (uy aP (pos:=pos) (env:=fr.env)) aD]
 refine wpAny_bind (wpAny_holding ?_)
 unfold calleeOf
 rw[if_pos rfl]
 refine hw.2.1 cy s1 mE br bl A a _ _ _ fun bt=> ?_
 dsimp only
 rw[show methodCallPos true o fr.env apos pos=pure pos by unfold methodCallPos;rw[aH];rfl]
 refine wpAny_bind (wpAny_pure (hw.1 (uy aP) (xB aL aP (br.toks (t:=bt)) (dO.toks (t:=bt)) aE a fun ct s2 ws bx eO bB bN=>⟨bx.keep,hw.2.2 ct aG s2 _ _ bx ?_ v H' d A a Q E fun ec s3 u c0 cB fq=>q ec s3 u c0 (((bo.trans .toks).trans bB).trans cB) fq⟩)))
 cases b with
 |true=>exact .ai (aC.step (br.toks (t:=bt)) bB bl) bN
 |false=>exact bN
theorem BP{T:String}{name:Str}{id:String}{v:V}{H:ao}(lG:PlainAttrs T)(slot:Slot T name id)(pY:typeOf (.builtin id)=pure (.type "method_descriptor"))
 (c_:∀J s u,aX c J H s→aC s.heap J v u→s.TypeIs u T∧∀a,u= .ref a→∃o,s.heap.get? a=some o∧o.dict=none):qV c k v H name (.builtin id) true:=by
 intro J s u I r A a e_ Q E q
 obtain⟨ag,ah⟩:=c_ J s u I r
 exact getMethod_builtin ag lG slot pY ah (q s.toks)
theorem SO{v:V}{H:ao}{l:Nat}{xs:List V}(aR:v= .loc l)(au:H[l]?=some (.list xs)):∀J s u,aX c J H s→aC s.heap J v u→s.TypeIs u "list"∧∀a,u= .ref a→∃o,s.heap.get? a=some o∧o.dict=none:=
 fun J s u I r=>aC.gr (G:=fun u=>s.TypeIs u "list"∧∀a,u= .ref a→∃o,s.heap.get? a=some o∧o.dict=none) (aR▸r) fun a aP=>I.hL aP au fun vs n ah _=>⟨⟨_,ah,rfl⟩,fun b e=>⟨_,Value.ref.inj e▸ah,rfl⟩⟩
theorem hB.dict{h:Heap}{J:List Addr}{o:Obj}{m:aM}(r:hB c h J o m)(hm:∀xs,m≠ .list xs):∃av n,o=df av n:=by
 cases m with
 |list xs=>exact absurd rfl (hm xs)
 |_=>exact⟨_,_,r.choose_spec.choose_spec.1⟩
theorem Nr{v:V}{H:ao}{l:Nat}{m:aM}(aR:v= .loc l)(au:H[l]?=some m)(hm:∀xs,m≠ .list xs):∀J s u,aX c J H s→aC s.heap J v u→s.TypeIs u "dict"∧∀a,u= .ref a→∃o,s.heap.get? a=some o∧o.dict=none:=
 fun J s u I r=>aC.gr (G:=fun u=>s.TypeIs u "dict"∧∀a,u= .ref a→∃o,s.heap.get? a=some o∧o.dict=none) (aR▸r) fun a aP=>I.mh aP au fun o ah aE=>by
  obtain⟨av,n,rfl⟩:=aE.dict hm
  exact⟨⟨_,ah,rfl⟩,fun b e=>⟨_,Value.ref.inj e▸ah,rfl⟩⟩
theorem An{J:List Addr}{H:ao}{s:Shared}{G:Value→Prop}(I:aX c J H s){C l:Nat}{u:Value}{ps:List (Str×V)}(r:aC s.heap J (.ins C l) u)(au:H[l]?=some (.aS ps))
 (k:∀a bv av n,J[l]?=some bv→s.heap.get? a=some (instObj C bv)→s.heap.get? bv=some (df av n)→fl c.w s.heap J ps av→InstAt s.heap a (instObj C bv) C (some (dictOf av n))→(ps.map (·.1)).Nodup→G (.ref a)):G u:=
 r.Am fun a bv ag ah=>I.ql ah au fun av n a7 cj iU=>k a bv av n ah ag a7 cj ⟨ag,rfl,rfl,a7⟩ iU
theorem JM{w:World}{h:Heap}{J:List Addr}{x:Str}:∀{ps:List (Str×V)} {av:List DictEntry},fl w h J ps av→∃p,getL x av=some p∧g9 h J (cH x ps) p:=by
 intro ps
 induction ps with
 |nil=>intro av r;obtain rfl:av=[]:=r;exact⟨_,rfl, .nil⟩
 |cons p ps aK=>
  intro av r
  obtain⟨t,u,da,rfl,a,b⟩:=r
  show∃i3,_∧g9 h J (if p.1=x then some p.2 else cH x ps) i3
  by_cases af:p.1=x
  ·subst af
   rw[if_pos rfl]
   exact⟨_,by unfold getL;rw[List.find?_cons];simp[Value.isStr], .one a⟩
  ·rw[if_neg af]
   have e:getL x (⟨hashStr w p.1, .str p.1 t,u⟩::da)=getL x da:=by
    unfold getL
    rw[List.find?_cons,show(DictEntry.key ⟨hashStr w p.1, .str p.1 t,u⟩).isStr x=false from beq_eq_false_iff_ne.mpr af]
    rfl
   rw[e];exact aK b
theorem Vk{w:World}{h:Heap}{J:List Addr}{x:Str}{ps:List (Str×V)}{av:List DictEntry}{v:V}{G:Prop}(r:fl w h J ps av)(aR:cH x ps=some v)(k:∀u,getL x av=some (some u)→aC h J v u→G):G:=
 (JM (x:=x) r).elim fun p b6=>g9.BY (G:=fun p=>getL x av=some p→G) (aR▸b6.2) (fun u mn e=>k u e mn) b6.1
structure ClsAt(c:a9)(C:Addr):Prop where
 get:∀x,plainGet c.K C x=true
 dict:hasDictIn c.K C=true
 set:findIn c.K (.ref C) "__setattr__"=some (some (.builtin "object.__setattr__"))
 over:plainOver c.K C=true
noncomputable abbrev eW(c:a9)(C:Addr)(x:Str):Prop:=findIn c.K (.ref C) x=some none
noncomputable def MethAt(c:a9)(C:Addr)(x:Str)(f:Addr):Prop:=findIn c.K (.ref C) x=some (some (.ref f))∧isFn c.K (.ref f)=true∧keepIn c.K (.ref f)=true
noncomputable def kP:V→Bool
 | .st _=>false
 |_=>true
theorem handed{h:Heap}{J:List Addr}{v:V}{u:Value}(r:aC h J v u)(aD:kP v=true):handedIn u=true:=by
 cases v with
 |none=>exact r.lE (G:=fun u=>handedIn u=true) rfl
 |bool b=>exact r.lZ (G:=fun u=>handedIn u=true) rfl
 |int i=>exact r.fM (G:=fun u=>handedIn u=true) fun _=>rfl
 |str x=>exact r.ff (G:=fun u=>handedIn u=true) fun _=>rfl
 |tup xs=>exact r.tupK (G:=fun u=>handedIn u=true) fun _ _ _ _ _=>rfl
 |loc l=>exact r.gr (G:=fun u=>handedIn u=true) fun _ _=>rfl
 |ins C l=>exact r.Am (G:=fun u=>handedIn u=true) fun _ _ _ _=>rfl
 |st v=>cases aD
noncomputable def gf(C:Addr)(x:Str)(v:V)(H:ao):Option V:=(vB v).bind fun p=>if p.1=C then(lW H[p.2]?).bind fun ps=>(cH x ps).bind fun u=>if kP u=true then some u else none else none
theorem W5{C:Addr}{x:Str}{v u:V}{H:ao}{G:Prop}(e:gf C x v H=some u)(k:∀l ps,v= .ins C l→H[l]?=some (.aS ps)→cH x ps=some u→kP u=true→G):G:=
 bQ e fun p aH e=>c3 e fun c9 e=>bQ e fun ps au e=>bQ e fun fG bR e=>c3 e fun aD e=>k p.2 ps (c9▸yJ aH) (pj au) (bR.trans e) (Option.some.inj e▸aD)
noncomputable def bp(C:Addr)(x:Str)(D:a0):a0:=cC D fun v _ H1=>(gf C x v H1).map (·,H1)
theorem b1(ok:c.Ok){C:Addr}{x:Str}{o:Expr}{pos:Pos}{D:a0}(aT:bA c nm k o D)(c9:ClsAt c C)(af:eW c C x)(az:∀env whole,attributeBase o x env whole=whole:=by intro _ _;rfl):
 bA c nm k (.Attribute o x pos) (bp C x D):=by
 intro fr aL J σ H s I mK v H' d A a Q E q
 refine pn d fun y ag d=>W5 d fun l ps aQ au hw aD=> ?_
 show wpAny _ _ (do
  let hM←attributeBase o x fr.env (eval o fr.env)
  standAt pos.atName
  let r←holding [hM] (getAttr hM x true)
  letTemporaryGo o hM r
  pure r) Q E s
 rw[az]
 refine wpAny_bind (aT.at aL I mK ag a fun cy s1 mE br dO bo bl=>wpAny_bind (wpAny_standAt (wpAny_bind (wpAny_holding ?_))))
 refine An (G:=fun u=>wpAny _ _ (getAttr u x true) (fun r s=>wpAny _ _ (do letTemporaryGo o u r;pure r) Q E s) E s1) br (aQ▸bl) au fun dg bv av n ah aE a7 cj n2 bk=>Vk cj hw fun u bR mn=> ?_
 exact get_value (ok.K.keeps br.keep) n2 (plainGet_of (c9.get x)).1 (findObj_own c9.dict af rfl bR) (handed mn aD) (wpAny_bind (wpAny_letTemporaryGo (wpAny_pure (q cy _ _ br.toks (bo.trans .toks) mn))))
end
noncomputable def b0{K:Type} [DecidableEq K](x:K)(v:V):List (K×V)→List (K×V)
 |[]=>[(x,v)]
 |(y,u)::r=>if y=x then(y,v)::r else(y,u)::b0 x v r
noncomputable abbrev qk(x:Str)(v:V)(ps:List (Str×V)):List (Str×V):=b0 x v ps
theorem l7{K:Type} [DecidableEq K](x:K)(v:V)(ps:List (K×V)):(b0 x v ps).length≤ps.length+1:=by
 induction ps with
 |nil=>exact Nat.le_refl 1
 |cons p r aK=>
  show(if p.1=x then(p.1,v)::r else(p.1,p.2)::b0 x v r).length≤_
  by_cases h:p.1=x
  ·rw[if_pos h];exact Nat.le_succ _
  ·rw[if_neg h];exact Nat.succ_le_succ aK
theorem Pi{K:Type} [DecidableEq K](x:K)(v:V)(ps:List (K×V))(y:K):y∈(b0 x v ps).map (·.1)→y=x∨y∈ps.map (·.1):=by
 induction ps with
 |nil=>exact fun h=> .inl (List.mem_singleton.mp h)
 |cons p r aK=>
  show y∈(if p.1=x then(p.1,v)::r else(p.1,p.2)::b0 x v r).map (·.1)→_∨y∈p.1::r.map (·.1)
  by_cases h:p.1=x
  ·rw[if_pos h];exact .inr
  ·rw[if_neg h]
   exact fun q=>(List.mem_cons.mp q).elim (fun q=> .inr (q▸List.mem_cons_self)) fun q=>(aK q).imp id (List.mem_cons_of_mem _)
theorem pI{K:Type} [DecidableEq K]{x:K}{v:V}{ps:List (K×V)}:(ps.map (·.1)).Nodup→((b0 x v ps).map (·.1)).Nodup:=by
 induction ps with
 |nil=>exact fun _=>List.nodup_cons.mpr ⟨List.not_mem_nil,List.nodup_nil⟩
 |cons p r aK=>
  show(p.1::r.map (·.1)).Nodup→((if p.1=x then(p.1,v)::r else(p.1,p.2)::b0 x v r).map (·.1)).Nodup
  by_cases h:p.1=x
  ·rw[if_pos h];exact id
  ·rw[if_neg h]
   exact fun q=>List.nodup_cons.mpr ⟨fun z=>(Pi x v r _ z).elim h (List.nodup_cons.mp q).1,aK (List.nodup_cons.mp q).2⟩
theorem fl.length{w:World}{h:Heap}{J:List Addr}{ps:List (Str×V)}:∀{av:List DictEntry},fl w h J ps av→av.length=ps.length:=by
 induction ps with
 |nil=>intro av r;rw[show av=[]from r];rfl
 |cons p ps aK=>intro av r;obtain⟨_,_,_,rfl,_,b⟩:=r;exact congrArg (· +1) (aK b)
theorem fl.Uc{w:World}{h:Heap}{J:List Addr}{ps:List (Str×V)}:∀{av:List DictEntry},fl w h J ps av→av.any (·.refKey)=false:=by
 induction ps with
 |nil=>intro av r;rw[show av=[]from r];rfl
 |cons p ps aK=>intro av r;obtain⟨_,_,_,rfl,_,b⟩:=r;have:=aK b;exact this
theorem Vl{w:World}{h:Heap}{J:List Addr}{x:Str}{v:V}{u:Value}{t:Tok}(r:aC h J v u){ps:List (Str×V)}:∀{av:List DictEntry},fl w h J ps av→fl w h J (qk x v ps) (putL x (hashStr w x) (.str x t) u av):=by
 induction ps with
 |nil=>intro av q;rw[show av=[]from q];exact⟨t,u,[],rfl,r,rfl⟩
 |cons p ps aK=>
  intro av q
  obtain⟨j1,fG,da,rfl,a,b⟩:=q
  show fl w h J (if p.1=x then(p.1,v)::ps else(p.1,p.2)::qk x v ps) (if(p.1==x)=true then _ else _)
  by_cases af:p.1=x
  ·rw[if_pos af,if_pos (beq_iff_eq.mpr af)]
   exact⟨j1,u,da,rfl,r,b⟩
  ·rw[if_neg af,if_neg fun z=>af (beq_iff_eq.mp z)]
   exact⟨j1,fG,_,rfl,a,aK b⟩
theorem Gu(w:World)(x:Str):PyData.keyHash w.params x=hashStr w x:=by
 unfold PyData.keyHash hashStr;rfl
section
variable{c:a9}{nm:a5}{k:Nat}
theorem VN(ok:c.Ok){C l:Nat}{H:ao}{ps:List (Str×V)}{name:Str}{f:Addr}(c9:ClsAt c C)(hm:MethAt c C name f)(au:H[l]?=some (.aS ps))(aD:cH name ps=none):qV c k (.ins C l) H name (.ref f) true:=by
 intro J s u I r A a e_ Q E q
 refine An (G:=fun u=>(∀bt,Q (.ref f,[u]) {s with toks:=bt})→wpAny _ A (getMethod u name e_) Q E s) I r au (fun dg bv av n ah aE a7 cj n2 bk q=> ?_) q
 refine method_fn (ok.K.keeps I.keep) n2 (plainGet_of (c9.get name)).1 (plainGet_of (c9.get name)).2 hm.1 (beq_iff_eq.mp hm.2.1) ?_ (q s.toks)
 show(lookIn name (dictOf av n)).map _=_
 rw[lookIn_dict]
 obtain⟨p,b6,aH⟩:=JM (x:=name) cj
 rw[aD] at aH;cases aH
 rw[b6];rfl
theorem VO(ok:c.Ok){C:Addr}{H:ao}{name:Str}{f:Value}{mc:Value}{p:Addr}{rest:List Value}(b6:specialIn c.K (.ref C) "__getattribute__"=some (some (.builtin "type.__getattribute__")))
 (aZ:readsIn c.K C mc=true) (e:findCls c.K (.ref C) mc name=some (.get (.builtin "staticmethod.__get__") (.ref p) .none (.ref C))) (aH:recIn c.K p "staticmethod"=some (f::rest)) (aR:handedIn f=true):
 qV c k (.st (.ref C)) H name f false:=by
 intro J s u I r A a e_ Q E q
 obtain rfl:=r.my
 have X:=ok.K.keeps I.keep
 exact method_cls X b6 (cls_bind X aZ e (wpAny_call (sm_get (s:={s with toks:=s.toks+1}) X aH (handed_on aR (q (s.toks+1))))))
theorem UE{w:World}{h:Heap}{J:List Addr}{ps:List (Str×V)}{av:List DictEntry}{n:Nat}{x:Str}{v:V}{u:Value}{t:Tok}{bv:Addr}{G:Prop}(q:fl w h J ps av)(r:aC h J v u)(hz:ps.length≤900)(a7:h.get? bv=some (df av n))
 (k:∀d_ fP,(h.update bv (Obj.putName x (PyData.keyHash w.params x) (.str x t) u)).get? bv=some (df d_ fP)→d_.length≤1000→fl w h J (qk x v ps) d_→G):G:=by
 have tT:Obj.putName x (PyData.keyHash w.params x) (.str x t) u (df av n)=df (putL x (hashStr w x) (.str x t) u av) (putN x av n):=by
  rw[Gu];exact putName_dict x _ _ u av n
 have oG:=Vl (x:=x) (t:=t) r q
 refine k _ _ ((Heap.get?_update_self _ a7 (by rw[tT];rfl)).trans (congrArg some tT)) ?_ oG
 rw[oG.length]
 exact Nat.le_trans (l7 x v ps) (Nat.le_trans (Nat.succ_le_succ hz) (by decide))
theorem Ud{av:List DictEntry}{b:Bool}(h:av.any (·.refKey)=false):(b&&av.toArray.any (·.refKey))=false:=by
 rw[←Array.any_toList,show av.toArray.toList=av from rfl,h,Bool.and_false]
theorem Vy(ok:c.Ok){C:Addr}{x:Str}(c9:ClsAt c C)(bg:takerIn c.K C x=some none){J:List Addr}{H:ao}{s:Shared}(I:aX c J H s){l:Nat}{ps:List (Str×V)}(au:H[l]?=some (.aS ps))(hz:ps.length≤900)
 {o:Value} (kQ:aC s.heap J (.ins C l) o) {v:V} {u:Value} (r:aC s.heap J v u) {A:Around} {Q:Unit→Shared→Prop} {E:Value→Shared→Prop}
 (q:∀s',aX c J (H.set l (.aS (qk x v ps))) s'→Step [] J J s s'→Q () s'):wpAny (model c.prog c.w) A (setAttr o x u) Q E s:=by
 obtain⟨aH,rm,Nt,B9,Ui⟩:=s
 refine An (G:=fun o=>wpAny _ A (setAttr o x u) Q E _) I kQ au fun dg bv av n ah aE a7 cj n2 bk=> ?_
 have X:=ok.K.keeps I.keep
 refine set_plain X n2 c9.set (osa_open (s:=⟨aH,rm,Nt,B9+1,Ui⟩) X n2 c9.over bg fun b=> ?_)
 obtain⟨cd,aU,hd⟩:=any_some c9.dict
 dsimp only
 unfold Builtin.ObjectAttr.storeInOwnDict
 refine wpAny_bind (wpAny_pure (wpAny_bind (wpAny_bind (wpAny_loadPart aE (wpAny_bind ((looks_clsIn X aU).at ?_))))))
 rw[hd]
 refine wpAny_pure (a:=some bv) (wpAny_bind (wpAny_pure (wpAny_bind ?_)))
 unfold nsSet
 refine wpAny_bind (wpAny_bind (wpAny_askSetting (wpAny_pure (wpAny_bind (wpAny_mkText (wpAny_bind (wpAny_loadPart a7 ?_)))))))
 dsimp only[df]
 rw[aRefKeyMayBeTheName_at,Ud cj.Uc]
 refine wpAny_updatePart a7 (UE (x:=x) (t:=B9+1) cj r hz a7 fun d_ fP fA hlen oG=> ?_)
 refine wpAny_bind (wpAny_lookBehind fA (pastItsLine_dict (by rw[List.size_toArray,sizeLine_eq];exact Nat.le_trans hlen (by decide))) (wpAny_pure ?_))
 have T:=I.turn (t:=B9+2) (m':= .aS (qk x v ps)) ah (Heap.SameBut.update aH bv _) fA ⟨_,_,rfl,oG,pI bk⟩
 exact q _ T.1 T.2
noncomputable def dF(C:Addr)(x:Str)(Do ka:a0):b9:=cC ka fun v=>cC Do fun o σ aG=>(vB o).bind fun p=>if p.1=C then(lW aG[p.2]?).bind fun ps=>if ps.length≤900 then some (.next,σ,aG.set p.2 (.aS (qk x v ps)))else none else none
theorem Nk{C:Addr}{x:Str}{Do ka:a0}{σ:aN}{H:ao}{r:mL×aN×ao}{G:Prop}(d:dF C x Do ka σ H=some r)(k:∀v H1 l aG ps,ka σ H=some (v,H1)→Do σ H1=some (.ins C l,aG)→aG[l]?=some (.aS ps)→ps.length≤900→
 some (.next,σ,aG.set l (.aS (qk x v ps)))=some r→G):G:=
 dp d fun v H1 ag d=>dp d fun o aG ah d=>bQ d fun p aH d=>c3 d fun c9 d=>bQ d fun ps au d=>c3 d fun hz d=>k v H1 p.2 aG ps ag (ah.trans (c9▸yJ aH▸rfl)) (pj au) hz d
theorem eK(ok:c.Ok){C:Addr}{x:Str}{o e:Expr}{pos j3:Pos}{Do ka:a0}(aT:bA c nm k o Do)(aR:bA c nm k e ka)(c9:ClsAt c C)(bg:takerIn c.K C x=some none)
 (aY:∀env,swapsWithSole [.Attribute o x j3] e pos.line env=pure false:=by intro _;rfl) (hw:∀env,swappedStores [.Attribute o x j3] e env=pure none:=by intro _;rfl):
 eC c nm k (.Assign [.Attribute o x j3] e pos) (dF C x Do ka):=by
 intro fr aL J σ H s I a3 ba H' d A a Q E q
 refine Nk d fun v H1 l aG ps ag ah au hz e=>wpAny_Assign_stores (aR.at aL I.h I.f ag a fun cy s1 mE br dO bo bl=> ?_) (aY _) (hw _)
 show wpAny _ _ (do
  let hM←holding [mE] (eval o fr.env)
  standAt j3.atName
  holding [mE,hM] (setAttr hM x mE)
  release [mE,hM] []) _ _ _
 refine wpAny_bind (wpAny_holding (aT.at aL br dO ah a fun ct s2 qz bx eO bB bN=>wpAny_bind (wpAny_standAt (wpAny_bind (wpAny_holding ?_)))))
 exact Vy ok c9 bg bx au hz bN (bl.step br bB) fun s3 c0 cB=>wpAny_release (f6.of e q ct s3 _ (I.step c0 ((bo.trans bB).trans cB)) ((bo.trans bB).trans cB).weaken rfl)
theorem cz.create{k:Nat}{A:Around}{C:Addr}{pos:List Value}{kw:List (Str×Value)}(h:cz (k+1) A):cz k (A.under (.builtin "type.__call__" ⟨.ref C::pos,kw⟩)):=by
 have tO:guardIds.contains "type.__call__"=false:=by decide+kernel
 refine h.AM ?_ ?_ (Nat.le_of_ble_eq_true rfl)
 ·show 0+1+(if guardIds.contains "type.__call__"=true then 1 else 0)+0≤2
  rw[tO];decide
 ·show(if guardIds.contains "type.__call__"=true then _ else _)=[]
  rw[tO];rfl
noncomputable def newD(C:Addr)(F:bz):bz:=fun args H=>(F (.ins C H.length::args) (H++[.aS []])).bind fun p=>(Dn p.1).bind fun _=>some (.ins C H.length,p.2)
theorem Tw{C:Addr}{F:bz}{args:List V}{H:ao}{r:V×ao}{G:Prop}(d:newD C F args H=some r)(k:∀H',F (.ins C H.length::args) (H++[.aS []])=some (.none,H')→some (.ins C H.length,H')=some r→G):G:=
 bQ d fun p h d=>bQ d fun _ aH d=>k p.2 (h.trans (congrArg (fun v=>some (v,p.2)) (MB aH))) d
theorem PI{h:Heap}{o cF:Obj}(hf:cF.isFreed=false):((h.push o).push cF).get? (h.objs.size+1)=some cF:=by
 have:=Heap.get?_push_size (h.push o) hf
 rwa[Heap.size_push] at this
theorem mv(ok:c.Ok){C f:Addr}{F:bz}(hm:makesIn c.K C=true)(hi:findIn c.K (.ref C) "__init__"=some (some (.ref f)))(hf:typeIn c.K (.ref f)=some (.type "function"))(h:ck c k f F):fS c (k+1) (.ref C) (newD C F):=by
 intro J H s args vals I r v H' d A a Q E q
 refine Tw d fun H1 ag e=> ?_
 have X:=ok.K.keeps I.keep
 obtain⟨bU,g,ku,bt,os⟩:=s
 refine wpAny_call (make_core (makes_of X hm) (looks_findIn X hi) (fun self=>bind_fn X self hf) (.inl rfl) ?_)
 have N:=I.alloc (o:=emptyDict) (m:= .aS []) (t:=bt) ⟨[],0,rfl,rfl, .nil⟩
 have bx:=N.1.push (o:=instObj C bU.objs.size) (t:=bt)
 have xN:=N.2.trans (Step.push (o:=instObj C bU.objs.size) (t:=bt))
 have JK:aC ((bU.push emptyDict).push (instObj C bU.objs.size)) (J++[bU.objs.size]) (.ins C H.length) (.ref (bU.objs.size+1)):=⟨_,_,rfl,PI rfl,I.lX⟩
 refine h _ _ _ (.ins C H.length::args) (.ref (bU.objs.size+1)::vals) bx (.ai JK (bL.step I xN r)) .none _ ag _ a.create _ fun aw s' u c4 eL da=> ?_
 rw[da.none_inv]
 exact⟨rfl,KE.of e q aw s' _ c4 (xN.trans eL) (aC.step bx eL JK)⟩
end
noncomputable def dList(bb:List a0):a0:=cC (eH bb) fun vs _ H1=>if vs.length≤1000 then some (.loc H1.length,H1++[.list vs])else none
noncomputable def cQ(bb:List a0):a0:=cC (eH bb) fun vs _ H1=>if vs.length≤1000 then some (.tup vs,H1)else none
noncomputable def r9(n:Nat)(i:Int):Option Nat:=if 0≤i then(if i<n then some i.toNat else none)else if -(n:Int)≤i then some (i+n).toNat else none
theorem Jo{n:Nat}{i:Int}{j:Nat}{G:Prop}(h:r9 n i=some j)(k1:0≤i→i<n→i.toNat=j→G)(k2:i<0→ -(n:Int)≤i→(i+n).toNat=j→G):G:=by
 unfold r9 at h
 by_cases h0:0≤i
 ·rw[if_pos h0] at h;exact c3 h fun ag h=>k1 h0 ag (Option.some.inj h)
 ·rw[if_neg h0] at h;exact c3 h fun ag h=>k2 (Int.not_le.mp h0) ag (Option.some.inj h)
noncomputable def Dq(o:V)(H:ao):Option (List V):=match o with
 | .tup xs=>some xs
 | .loc l=>h_ H[l]?
 |_=>none
noncomputable def f5(o i:V)(H:ao):Option V:=match i with
 | .int k=>(Dq o H).bind fun xs=>if k.natAbs<2^60 then(r9 xs.length k).bind fun j=>xs[j]? else none
 | .str x=>(lb o).bind fun l=>(lW H[l]?).bind fun ps=>cH x ps
 |_=>none
noncomputable def bG(D R:a0):a0:=gQ D R fun x y aG=>(f5 x y aG).map (·,aG)
theorem yO{α:Type}{ws:List α}{n:Nat}(h:n≤1000)(e:n=ws.length):ws.toArray.size≤sizeLine:=by rw[List.size_toArray,sizeLine_eq,←e];exact Nat.le_trans h (by decide)
section
variable{c:a9}{nm:a5}{k:Nat}
theorem dQ{av:List Expr}{bb:List a0}{pos:Pos}(h:f7 c nm k av bb):bA c nm k (.List av pos) (dList bb):=by
 intro fr aL J σ H s I F v H' d A a Q E q
 exact dp d fun vs H1 cL d=>c3 d fun hz e=>List_ (BM aL h I F cL a fun cy s1 ws br dO bo bl=>wpAny_newObj_type (br.newList bo bl e q) (yO hz bl.length))
theorem d2{av:List Expr}{bb:List a0}{fc:Nat}{pos:Pos}(h:f7 c nm k av bb):bA c nm k (.Tuple av fc pos) (cQ bb):=by
 intro fr aL J σ H s I F v H' d A a Q E q
 exact dp d fun vs H1 cL d=>c3 d fun hz e=>Tuple_ (BM aL h I F cL a fun cy s1 ws br dO bo bl=>wpAny_newObj_type (KE.of e q _ _ _ br.push (bo.trans .push) ⟨_,ws,0,rfl,Heap.get?_push_size _ rfl,bl.step br .push⟩) (yO hz bl.length))
theorem seqIndex_of{n:Nat}{i:Int}{j:Nat}(h:r9 n i=some j):seqIndex? i n=some j:=
 Jo h (fun h0 ag e=>e▸PySem.seqIndex_of h0 ag) fun h0 ag e=>e▸seqIndex_neg h0 ag
theorem listItem{prog:Program}{w:World}{s:Shared}{l:Addr}{items:Array Value}{k:Int}{t:Tok}{j n:Nat}{x:Value}{A:Around}{Q E:Value→Shared→Prop}(au:s.heap.IsList l items)(aD:items.size=n)(aB:k.natAbs<2^60)(bM:r9 n k=some j)(af:items[j]?=some x)(q:Q x s):
 wpAny (model prog w) A (getItem (.ref l) (.int k t)) Q E s:=by
 subst aD
 exact Jo bM (fun h0 ag e=>wpAny_getItem_list au h0 (xI aB).2 (e▸af) q) fun h0 ag e=>wpAny_getItem_list_neg au h0 ag (xI aB).1 (e▸af) q
theorem Xc(ok:c.Ok){J:List Addr}{H:ao}{s:Shared}(I:aX c J H s){o i v:V}{a_ hy:Value}(e:f5 o i H=some v)(kQ:aC s.heap J o a_)(jy:aC s.heap J i hy){A:Around}{Q:Value→Shared→Prop}{E:Value→Shared→Prop}
 {value slice:Expr} (aY:∀a i,(∀b,i≠ .ref b)→subscripted slice false a i=operate [a,i] (getItem a i)) (q:∀bt w,aC s.heap J v w→Q w {s with toks:=bt}):wpAny (model c.prog c.w) A (subscriptTail value slice a_ hy) Q E s:=by
 cases i with
 |int fc=>
  refine jy.fM (G:=fun hy=>wpAny _ A (subscriptTail value slice a_ hy) Q E s) fun t=>bQ e fun xs aT e=>c3 e fun aB e=>bQ e fun j bM af=> ?_
  cases o with
  |tup ci=>
   obtain rfl:=Option.some.inj aT
   refine kQ.tupK (G:=fun a_=>wpAny _ A (subscriptTail value slice a_ _) Q E s) fun kk vs n aT rs=> ?_
   obtain⟨w,hw,cR⟩:=rs.get af
   have bg:IsTup s.heap kk vs.toArray:=⟨_,aT,rfl,n,rfl⟩
   exact tail_any bg.typeIs slot_tuple_getitem.lookup (PyProof.Rows.getItem_tuple bg (xI aB).1 (xI aB).2 (seqIndex_of (by rw[List.size_toArray,←rs.length];exact bM)) (List.getElem?_toArray.trans hw) (q s.toks w cR)) (aY _ _ (fun b=>nofun))
  |loc l=>
   refine kQ.gr (G:=fun a_=>wpAny _ A (subscriptTail value slice a_ _) Q E s) fun kk aP=>I.hL aP (iv aT) fun vs n ah rs=> ?_
   obtain⟨w,hw,cR⟩:=rs.get af
   have bH:s.heap.IsList kk vs.toArray:=⟨_,ah,rfl,n,rfl⟩
   exact tail_any bH.typeIs slot_list_getitem.lookup (listItem bH rs.length.symm aB bM (List.getElem?_toArray.trans hw) (q s.toks w cR)) (aY _ _ (fun b=>nofun))
  |_=>exact cn aT
 |str x=>
  refine jy.ff (G:=fun hy=>wpAny _ A (subscriptTail value slice a_ hy) Q E s) fun t=>bQ e fun l au e=>bQ e fun ps aH e=>aC.gr (G:=fun a_=>wpAny _ A (subscriptTail value slice a_ _) Q E s) (mZ au▸kQ) fun kk aP=>(AT I aP (pj aH)).elim fun f hf=> ?_
  exact g9.BY (G:=fun p=>f x=p→_) (e▸hf.2 x) (fun w cR hw=>tail_any hf.1.typeIs slot_dict_getitem.lookup (wpAny_getItem_of (strKind_is c.prog c.w x t) hf.1 hw (q (s.toks+1) w cR)) (aY _ _ (fun b=>nofun))) rfl
 |_=>exact cn e
theorem b'(ok:c.Ok){o i:Expr}{D R:a0}{pos:Pos}(aT:bA c nm k o D)(hi:bA c nm k i R)(aY:∀a j,(∀b,j≠ .ref b)→subscripted i false a j=operate [a,j] (getItem a j):=by intro _ _ _;rfl):bA c nm k (.Subscript o i pos) (bG D R):=by
 intro fr aL J σ H s I F v H' d A a Q E q
 exact DO d fun x H1 y ag ah d=>Subscript_ (two aT hi aL I F ag ah a fun ct s2 c1 dE bx eO bB bl bN=>Xc ok bx d bl bN aY fun bt w cR=>q ct _ w bx.toks (bB.trans .toks) cR)
inductive qW(c:a9)(nm:a5)(k:Nat):Option Expr→Option a0→Prop
 |none:qW c nm k none none
 |some {e:Expr} {D:a0}:bA c nm k e D→qW c nm k (some e) (some D)
noncomputable def m3:Option a0→aN→ao→Option (Option Int×ao)
 |none=>fun _ H=>some (none,H)
 |some D=>cC D fun v _ H1=>(jk v).map fun i=>(some i,H1)
inductive h7:Option Int→Value→Prop
 |none:h7 none .none
 |some {i:Int} {t:Tok}:h7 (some i) (.int i t)
theorem sa{fr:cX}(aL:dw nm fr){e:Option Expr}{P:Option a0}(h:qW c nm k e P){J:List Addr}{σ:aN}{H H':ao}{s:Shared}(I:aX c J H s)(F:dm c nm fr J σ s){r:Option Int}(d:m3 P σ H=some (r,H'))
 {A:Around} (a:cz k A) {Q E:Value→Shared→Prop} (q:∀aw s' w,aX c aw H' s'→dm c nm fr aw σ s'→Step [] J aw s s'→h7 r w→Q w s'):wpAny (model c.prog c.w) A (evalPart e fr.env) Q E s:=by
 cases h with
 |none=>exact lK d fun e aR=>wpAny_evalPart_none (q J s _ (e▸I) F .refl (aR▸ .none))
 |some h=>exact vL (f:=fun v _=>jk v) d fun v i ag hi aR=>wpAny_evalPart_some (h.at aL I F ag a fun cy s1 w br dO bo bl=>q cy s1 w br dO bo (aC.fM (G:=h7 r) (k' hi▸bl) fun t=>aR▸ .some))
noncomputable def picks{α:Type}(items:List α)(lo hi st:Option Int):List α:=
 (sliceRange (sliceBounds lo hi st items.length).1 (sliceBounds lo hi st items.length).2.1 (sliceBounds lo hi st items.length).2.2).filterMap fun x=>items[x]?
theorem Xi{h:Heap}{J:List Addr}{xs:List V}{ws:List Value}(r:bL h J xs ws)(is:List Nat):bL h J (is.filterMap fun x=>xs[x]?) (is.filterMap fun x=>ws[x]?):=by
 induction is with
 |nil=>exact .kO
 |cons i is aK=>
  rw[List.filterMap_cons,List.filterMap_cons]
  cases af:xs[i]? with
  |none=>rw[List.getElem?_eq_none (r.length▸List.getElem?_eq_none_iff.mp af)];exact aK
  |some x=>
   obtain⟨w,hw,cR⟩:=r.get af
   rw[hw];exact .ai cR aK
theorem Um(ws:List Value)(lo hi st:Option Int):slicePick ws.toArray lo hi st=(picks ws lo hi st).toArray:=by
 unfold slicePick picks
 simp
noncomputable def hx(x:Str)(lo hi st:Option Int):Str:=
 if(st.getD 1==1&&(Builtin.Str.strSliceIndices lo hi (st.getD 1) x.length).length==x.length)=true then x else{cps:=((Builtin.Str.strSliceIndices lo hi (st.getD 1) x.length).filterMap (x.cps[·]?)).toArray}
noncomputable def sm(o:V)(lo hi st:Option Int)(H:ao):Option (V×ao):=if st=some 0 then none else match o with
 | .loc l=>(h_ H[l]?).bind fun xs=>if xs.length≤1000 then some (.loc H.length,H++[.list (picks xs lo hi st)])else none
 | .str x=>if(hx x lo hi st).length≤1000 then some (.str (hx x lo hi st),H)else none
 |_=>none
noncomputable def eX(D:a0)(lo hi st:Option a0):a0:=cC D fun x=>cC (m3 lo) fun l=>cC (m3 hi) fun u=>cC (m3 st) fun t _ cW=>sm x l u t cW
theorem h7.Aq{r:Option Int}{w:Value}(p:h7 r w):IsPart w r:=by
 cases p with
 |none=>exact .none
 |some=>exact .int _ _
theorem h7.val{r:Option Int}{w:Value}(p:h7 r w):∃pr:Option (Int×Tok),w=partValue pr∧pr.map (·.1)=r:=by
 cases p with
 |none=>exact⟨Option.none,rfl,rfl⟩
 | @some i t=>exact⟨Option.some (i,t),rfl,rfl⟩
theorem GX{J:List Addr}{H:ao}{s:Shared}(I:aX c J H s){xs:List V}{r:V×ao}{lo hi st:Option Int}{wl nM ws:Value}{kk:Addr}{vs:List Value}(bH:s.heap.IsList kk vs.toArray)(rs:bL s.heap J xs vs)(hz:xs.length≤1000)(hK:¬st=some 0)
 (e:some (.loc H.length,H++[.list (picks xs lo hi st)])=some r) (e_:h7 lo wl) (pu:h7 hi nM) (ps:h7 st ws) {A:Around} {Q:Value→Shared→Prop} {E:Value→Shared→Prop} {value slice:Expr} (aY:∀a b,∃ops,subscripted slice false a b=operate ops (getItem a b))
 (q:∀aw s' w,aX c aw r.2 s'→Step [] J aw s s'→aC s'.heap aw r.1 w→Q w s'):
 wpAny (model c.prog c.w) A (subscriptTail value slice (.ref kk) (.ref s.heap.objs.size)) Q E {s with heap:=s.heap.push {cls:= .type "slice",data:= .fields #[wl,nM,ws]}}:=by
 obtain⟨ops,zX⟩:=aY (.ref kk) (.ref s.heap.objs.size)
 refine tail_any (bH.push _).typeIs slot_list_getitem.lookup (wpAny_getItem_list_slice (bH.push _) (Heap.IsSliceOf.new ..) e_.Aq pu.Aq ps.Aq hK ?_ (yO hz rs.length)) zX
 rw[Um]
 exact aX.newList (I.push (o:={cls:= .type "slice",data:= .fields #[wl,nM,ws]}) (t:=s.toks)) .push (bL.step I .push (by unfold picks;rw[rs.length];exact Xi rs _)) e q
theorem str_slice{J:List Addr}{H:ao}{s:Shared}(I:aX c J H s){x:Str}{t:Tok}{r:V×ao}{lo hi st:Option Int}{wl nM ws:Value}(hz:(hx x lo hi st).length≤1000)(hK:¬st=some 0)
 (e:some (.str (hx x lo hi st),H)=some r) (e_:h7 lo wl) (pu:h7 hi nM) (ps:h7 st ws) {A:Around} {Q:Value→Shared→Prop} {E:Value→Shared→Prop} {value slice:Expr} (aY:∀a b,∃ops,subscripted slice false a b=operate ops (getItem a b))
 (q:∀aw s' w,aX c aw r.2 s'→Step [] J aw s s'→aC s'.heap aw r.1 w→Q w s'):
 wpAny (model c.prog c.w) A (subscriptTail value slice (.str x t) (.ref s.heap.objs.size)) Q E {s with heap:=s.heap.push {cls:= .type "slice",data:= .fields #[wl,nM,ws]}}:=by
 obtain⟨rJ,rfl,rfl⟩:=e_.val
 obtain⟨fG,rfl,rfl⟩:=pu.val
 obtain⟨s',rfl,rfl⟩:=ps.val
 obtain⟨ops,zX⟩:=aY (.str x t) (.ref s.heap.objs.size)
 have q:=KE.of e q
 clear e
 refine tail_any (typeIs_str _ x t) F.slot_str_getitem.lookup (wpAny_getItem_str_slice (l:=rJ) (u:=fG) (st:=s') ⟨_,Heap.get?_push_size _ rfl,rfl,rfl⟩ ?_ ?_) zX
 ·cases s' with
  |none=>rfl
  |some i=>exact beq_eq_false_iff_ne.mpr fun q=>hK (congrArg some q)
 ·unfold sliceMade slicePicked
  unfold hx at hz q
  split
  ·rename_i aU
   rw[if_pos aU] at q
   exact q J _ _ I.push .push .mkStr
  ·rename_i aU
   rw[if_neg aU] at q hz
   exact⟨Nat.le_trans hz (by decide+kernel),q J _ _ (aX.toks I.push) (Step.trans .push .toks) .mkStr⟩
theorem W9(ok:c.Ok){J:List Addr}{H:ao}{s:Shared}(I:aX c J H s){o:V}{r:V×ao}{lo hi st:Option Int}{a_ wl nM ws:Value}(e:sm o lo hi st H=some r)(kQ:aC s.heap J o a_)
 (e_:h7 lo wl) (pu:h7 hi nM) (ps:h7 st ws) {A:Around} {Q:Value→Shared→Prop} {E:Value→Shared→Prop} {value slice:Expr} (aY:∀a b,∃ops,subscripted slice false a b=operate ops (getItem a b))
 (q:∀aw s' w,aX c aw r.2 s'→Step [] J aw s s'→aC s'.heap aw r.1 w→Q w s'):
 wpAny (model c.prog c.w) A (subscriptTail value slice a_ (.ref s.heap.objs.size)) Q E {s with heap:=s.heap.push {cls:= .type "slice",data:= .fields #[wl,nM,ws]}}:=by
 unfold sm at e
 by_cases hK:st=some 0
 ·rw[if_pos hK] at e;exact cn e
 rw[if_neg hK] at e
 cases o with
 |loc l=>exact kQ.gr (G:=fun a_=>wpAny _ A (subscriptTail value slice a_ _) Q E _) fun kk aP=>bQ e fun xs au e=>c3 e fun hz e=>I.hL aP (iv au) fun vs n ah rs=>GX I ⟨_,ah,rfl,n,rfl⟩ rs hz hK e e_ pu ps aY q
 |str x=>exact kQ.ff (G:=fun a_=>wpAny _ A (subscriptTail value slice a_ _) Q E _) fun t=>c3 e fun hz e=>str_slice I hz hK e e_ pu ps aY q
 |_=>exact cn e
theorem i8(ok:c.Ok){o:Expr}{lower upper step:Option Expr}{D:a0}{lo hi st:Option a0}{p pos:Pos}(aT:bA c nm k o D)(au:qW c nm k lower lo)(bR:qW c nm k upper hi)(hK:qW c nm k step st):
 bA c nm k (.Subscript o (.Slice lower upper step p) pos) (eX D lo hi st):=by
 intro fr aL J σ H s I F v H' d A a Q E q
 refine dp d fun x H1 ag d=>dp d fun l aG ah d=>dp d fun u H3 aE d=>dp d fun t cW a7 d=> ?_
 refine Subscript_ (aT.at aL I F ag a fun cy s1 c1 br dO bo bl=>wpAny_Slice (sa aL au br dO ah a fun ct s2 dE bx eO bB bN=>sa aL bR bx eO aE a fun ec s3 qD c0 jE cB fq=>sa aL hK c0 jE a7 a fun fh s4 Xm h5 Lv hP i7=> ?_))
 refine W9 ok h5 (lo:=l) (hi:=u) (st:=t) d (((bl.step br bB).step bx cB).step c0 hP) bN fq i7 (fun a b=> ?_) fun lO s5 Cl n1 fR nz=>q lO s5 Cl n1 ((((bo.trans bB).trans cB).trans hP).trans fR) nz
 cases step with
 |none=>exact⟨[b,a],rfl⟩
 |some e=>exact⟨[a,b],rfl⟩
end
structure k6(c:a9)(fr:cX)(J wr:List Addr)(h:Heap):Prop where
 oK:∀b∈wr,b∉J
 base:∀b∈wr,c.base.get? b=none
 own:∀b∈wr,b∉fr.own
 loc:fr.env.locals∉wr
 mf:∀b∈wr,∀v,¬h.IsCell b v
 iG:∀b∈wr,∀o,h.get? b=some o→¬fi o
section
variable{c:a9}{nm:a5}{fr:cX}{J wr:List Addr}{H:ao}{s:Shared}{σ:aN}{ax:Heap}{t:Nat}
theorem aX.other(I:aX c J H s)(aZ:∀b∈wr,b∉J)(az:∀b∈wr,c.base.get? b=none)(hf:∀b∈wr,∀o,s.heap.get? b=some o→¬fi o)(aB:∀b o,b∉wr→s.heap.get? b=some o→ax.get? b=some o)(hz:s.heap.objs.size≤ax.objs.size):
 aX c J H {s with heap:=ax,toks:=t}:=by
 have tA:∀a o,s.heap.get? a=some o→fi o→ax.get? a=some o:=fun a o e f=>aB a o (fun q=>hf a q o e f) e
 refine⟨fun b o e=>aB b o (fun q=>by rw[az b q] at e;cases e) (I.keep b o e),I.iH,Nat.le_trans I.big hz,I.bk,I.len,fun i m e=> ?_⟩
 obtain⟨a,o,ag,ah,aE⟩:=I.objs i m e
 exact⟨a,o,ag,aB a o (fun q=>aZ a q (List.mem_of_getElem? ag)) ah,aE.mono tA (fun _ _ e=>e)⟩
theorem dm.other(F:dm c nm fr J σ s)(X:k6 c fr J wr s.heap)(aB:∀b o,b∉wr→s.heap.get? b=some o→ax.get? b=some o):dm c nm fr J σ {s with heap:=ax,toks:=t}:=by
 obtain⟨m,aD,bH,aR⟩:=F.loc
 have tA:∀a o,s.heap.get? a=some o→fi o→ax.get? a=some o:=fun a o e f=>aB a o (fun q=>X.iG a q o e f) e
 refine⟨fun a aP=> ?_,m,Ns.of_get aD fun o e=>aB _ _ X.loc e,bH,fun i v e=> ?_⟩
 ·obtain⟨ag,ah,o,aE,a7⟩:=F.own a aP
  exact⟨ag,ah,o,aB _ _ (fun q=>X.own a q aP) aE,a7⟩
 ·obtain⟨y,gv,ag,ah,aE⟩:=aR i v e
  refine⟨y,gv,ag,?_,aE.mono tA (fun _ _ e=>e)⟩
  rcases ah with ah|⟨ah,b4,a7,cj⟩
  ·exact .inl ah
  ·exact .inr ⟨ah,b4,a7,IsCell.of_get cj fun o e=>aB _ _ (fun q=>X.mf b4 q _ cj) e⟩
theorem b_.other(I:b_ c nm fr J σ H s)(X:k6 c fr J wr s.heap)(aB:∀b o,b∉wr→s.heap.get? b=some o→ax.get? b=some o)(hz:s.heap.objs.size≤ax.objs.size):b_ c nm fr J σ H {s with heap:=ax,toks:=t}:=
 ⟨I.h.other X.oK X.base X.iG aB hz,I.f.other X aB,I.n.L,fun y aQ=>by
  obtain⟨ag,b4,v,ah,aE,a7⟩:=I.n.cl y aQ
  exact⟨ag,b4,v,ah,IsCell.of_get aE fun o e=>aB _ _ (fun q=>X.mf b4 q _ aE) e,a7⟩,I.n.apart⟩
theorem Step.other{own:List Addr}(aB:∀b o,b∉wr→s.heap.get? b=some o→ax.get? b=some o)(hz:s.heap.objs.size≤ax.objs.size)(hw:∀b∈wr,b∈own):Step own J J s {s with heap:=ax,toks:=t}:=
 ⟨⟨[],by simp⟩,fun b o e _ h=>aB b o (fun q=>h (hw b q)) e,hz,rfl,rfl⟩
theorem Step.more{own uu J aw:List Addr}{s s':Shared}(x:Step own J aw s s')(h:∀b∈own,b∈uu):Step uu J aw s s':=⟨x.ext,fun b o e ag ah=>x.ey b o e ag fun q=>ah (h b q),x.size,x.gens,x.os⟩
theorem Step.less{own uu J aw:List Addr}{s s':Shared}(x:Step uu J aw s s')(h:∀b∈uu,b∈own∨s.heap.objs.size≤b):Step own J aw s s':=
 ⟨x.ext,fun b o e ag ah=>x.ey b o e ag fun q=>by
  rcases h b q with q|q
  ·exact ah q
  ·exact absurd (Heap.lt_size e) (Nat.not_lt.mpr q),x.size,x.gens,x.os⟩
end
noncomputable abbrev fk:=Nat→ao→Option (Option V)
structure mO(c:a9)(I:Addr)(wr:List Addr)(nx:fk)(cg:Expr)(lM:V)(lN:Value)(St:Nat→Heap→Prop):Prop where
 keep:∀i (h ax:Heap),St i h→(∀b∈wr,∀o,h.get? b=some o→ax.get? b=some o)→St i ax
 alive:∀i (h:Heap),St i h→∀b∈wr,∃o vs,h.get? b=some o∧o.data= .fields vs
 self:∀i (A:Around) (s:Shared) (Q:Value→Shared→Prop) (E:Value→Shared→Prop),St i s.heap→Q (.ref I) s→wpAny (model c.prog c.w) A (pyIter (.ref I)) Q E s
 item:∀i J H s,St i s.heap→(∀b∈wr,b∉J)→aX c J H s→aC s.heap J lM lN→∀v,nx i H=some (some v)→∀(A:Around),A.handled=none→∀(Q:Value→Shared→Prop) (E:Value→Shared→Prop),
  (∀ax bt w,St (i+1) ax→(∀b o,b∉wr→s.heap.get? b=some o→ax.get? b=some o)→aC ax J v w→Q w {s with heap:=ax,toks:=bt})→
   wpAny (model c.prog c.w) A (pyNext (.ref I)) (fun r s1=>∃w,r=some w∧wpAny (model c.prog c.w) A (letOwnedTupleGo cg (.ref I) w) (fun _ s2=>Q w s2) E s1) E s
 done:∀i J H s,St i s.heap→(∀b∈wr,b∉J)→aX c J H s→aC s.heap J lM lN→nx i H=some none→∀(A:Around),A.handled=none→∀(Q:Option Value→Shared→Prop) (E:Value→Shared→Prop),
  (∀ax bt,(∀b o,b∉wr→s.heap.get? b=some o→ax.get? b=some o)→Q none {s with heap:=ax,toks:=bt})→wpAny (model c.prog c.w) A (pyNext (.ref I)) Q E s
noncomputable def n7(c:a9)(nm:a5)(k:Nat)(t:Expr)(T:V→aN→ao→Option aN):Prop:=
 ∀(fr:cX),dw nm fr→∀(J:List Addr) (σ:aN) (H:ao) (s:Shared),b_ c nm fr J σ H s→∀v w ba,aC s.heap J v w→T v σ H=some ba→∀(A:Around),cz k A→∀(Q:Unit→Shared→Prop) (E:Value→Shared→Prop),
  (∀s',b_ c nm fr J ba H s'→Step fr.own J J s s'→Q () s')→wpAny (model c.prog c.w) A (assign t fr.env w) Q E s
noncomputable def cx(i:Nat):V→aN→ao→Option aN:=fun v σ _=>some (upd σ i v)
noncomputable def vN(nx:fk)(T:V→aN→ao→Option aN)(B:b9):Nat→Nat→b9
 |0,_=>fun _ _=>none
 |n+1,i=>fun σ H=>(nx i H).bind fun o=>match o with
  |some v=>(T v σ H).bind fun b3=>ra B (fun a3 gy aG=>match a3 with
   | .next=>vN nx T B n (i+1) gy aG
   | .ret v=>some (.ret v,gy,aG)) b3 H
  |none=>some (.next,σ,H)
noncomputable def kx:Nat:=2000000
section
variable{c:a9}{nm:a5}{k:Nat}
theorem eB{i:Nat}{x:Str}{fN:NameKind}{jw:Pos}(dG:(nm.map (·.1)).Nodup)(af:nm[i]?=some (x,fN))(aB:fN= .local∨fN= .cell):n7 c nm k (.Name x jw) (cx i):=by
 intro fr aL J σ H s I v w ba r e A a Q E q
 exact wpAny_assign_Name (sf aL dG af aB I r (Option.some.inj e▸q))
noncomputable def Ly(c:a9)(A:Around)(cd:Code)(R:Result→Shared→Prop)(f:Flow)(s4:Shared):Prop:=wpAny (model c.prog c.w) (A.under cd) (match f with
 | .next| .cont=>again cd
 | .brk=>pure (.done .next)
 | .ret v=>pure (.done (.ret v))) (fun fin s'=>match fin with| .done f=>R (.ok f) s'| .again s6=>s6.quiet=true∧codeAny (model c.prog c.w) A s6 R s') (fun _ _=>False) s4
noncomputable def ForIn(c:a9)(A:Around)(cd:Code)(env:Env)(cg:Expr)(b:List Stmt)(R:Result→Shared→Prop)(w:Value)(s2:Shared):Prop:=
 wpAny (model c.prog c.w) (A.under cd) (assign cg env w) (fun _ s3=>wpAny (model c.prog c.w) (A.under cd) (execs b env) (Ly c A cd R) (fun _ _=>False) s3) (fun _ _=>False) s2
section
variable{env:Env}{I:Addr}{cg:Expr}{b:List Stmt}{A:Around}{R:Result→Shared→Prop}{s:Shared}
theorem Ey(h:wpAny (model c.prog c.w) (A.under (.forLoop cg (.ref I) b [] env)) (pyNext (.ref I)) (fun r s1=>r=none∧R (.ok .next) s1) (fun _ _=>False) s):codeAny (model c.prog c.w) A (.forLoop cg (.ref I) b [] env) R s:=by
 refine codeAny_of_tree ?_
 show wpAny _ _ ((forTurn cg (.ref I) b [] env).onRaise _) _ _ s
 refine wpAny_onRaise (wpAny_mono (E:=fun _ _=>False) ?_ (fun _ _ x=>x) fun _ _ x=>x.elim)
 unfold forTurn
 refine wpAny_bind (wpAny_standAt (wpAny_bind (wpAny_onRaise (wpAny_mono h (fun r s1 x=> ?_) fun _ _ x=>x.elim))))
 obtain⟨rfl,x⟩:=x
 refine wpAny_pure (And.intro rfl (codeAny_of_tree ?_))
 show wpAny _ _ (do return Fin.done (←(execs [] env).onRaise _)) _ _ _
 exact wpAny_bind (wpAny_onRaise (wpAny_execs_nil (wpAny_pure x)))
theorem OZ(h:wpAny (model c.prog c.w) (A.under (.forLoop cg (.ref I) b [] env)) (pyNext (.ref I)) (fun r s1=>∃w,r=some w∧wpAny (model c.prog c.w) (A.under (.forLoop cg (.ref I) b [] env)) (letOwnedTupleGo cg (.ref I) w)
 (fun _ s2=>s.heap.objs.size≤s2.heap.objs.size→ForIn c A (.forLoop cg (.ref I) b [] env) env cg b R w s2) (fun _ _=>False) s1) (fun _ _=>False) s):codeAny (model c.prog c.w) A (.forLoop cg (.ref I) b [] env) R s:=by
 refine codeAny_of_tree ?_
 show wpAny _ _ ((forTurn cg (.ref I) b [] env).onRaise _) _ _ s
 refine wpAny_onRaise (wpAny_mono (E:=fun _ _=>False) ?_ (fun _ _ x=>x) fun _ _ x=>x.elim)
 unfold forTurn
 refine wpAny_bind (wpAny_standAt (wpAny_bind (wpAny_onRaise (i' (wpAny_mono h (fun r s1 x Ad=> ?_) fun _ _ x=>x.elim)))))
 obtain⟨w,rfl,x⟩:=x
 refine wpAny_bind (i' (wpAny_mono x (fun _ s2 bj oC=> ?_) fun _ _ x=>x))
 refine wpAny_bind (wpAny_mono (bj (Nat.le_trans Ad oC)) (fun _ s3 cc=>wpAny_bind (wpAny_mono cc (fun f s4 dK=> ?_) fun _ _ x=>x)) fun _ _ x=>x)
 cases f<;>exact dK
end
section
variable{fr:cX}{I:Addr}{wr:List Addr}{nx:fk}{cg:Expr}{lM:V}{lN:Value}{St:Nat→Heap→Prop}{J fh:List Addr}{σ:aN}{H:ao}{s s1 s4:Shared}{i:Nat}
theorem v_{h:Heap}{b:Addr}{o:Obj}(x:∃o vs,h.get? b=some o∧o.data= .fields vs)(e:h.get? b=some o):¬fi o:=by
 obtain⟨cF,vs,aT,hd⟩:=x
 rw[aT] at e;cases e
 rintro(⟨_,_,_,f⟩|f)<;>exact nomatch hd.symm.trans f
theorem k6.step(X:k6 c fr J wr s.heap)(al:∀b∈wr,∃o vs,s1.heap.get? b=some o∧o.data= .fields vs)(Di:∀b∈wr,∃o vs,s4.heap.get? b=some o∧o.data= .fields vs)(st:Step fr.own J fh s1 s4):k6 c fr fh wr s4.heap:=by
 obtain⟨Yk,rfl,Rn⟩:=st.ext
 refine⟨fun x af fY=> ?_,X.base,X.own,X.loc,fun x af v aU=> ?_,fun x af o e=>v_ (Di x af) e⟩
 ·obtain⟨o,vs,aT,_⟩:=al x af
  exact(List.mem_append.mp fY).elim (X.oK x af) fun fY=>absurd (Heap.lt_size aT) (Nat.not_lt.mpr (Rn x fY))
 ·obtain⟨o,vs,aT,hd⟩:=Di x af
  obtain⟨cF,ek,e7⟩:=aU
  rw[aT] at ek;cases ek
  exact nomatch hd.symm.trans e7
theorem aC.turn(jj:b_ c nm fr J σ H s)(X:k6 c fr J wr s.heap)(aB:∀b o,b∉wr→s.heap.get? b=some o→s1.heap.get? b=some o)(st:Step fr.own J fh s1 s4)(r:aC s.heap J lM lN):aC s4.heap fh lM lN:=
 aC.mono (fun b o e f=>st.ey b o (aB b o (fun q=>X.iG b q o e f) e) (fun q=>jj.h.iG q e f) fun q=>by
  obtain⟨_,_,cF,ek,e7⟩:=jj.f.own b q
  rw[e] at ek;cases ek
  exact uv e7 f) st.lk _ r
end
theorem f6.Bo{own:List Addr}{fr:cX}{J:List Addr}{s:Shared}{R:Result→Shared→Prop}{p r:mL×aN×ao}(e:some p=some r)
 (q:∀aw s' f,b_ c nm fr aw r.2.1 r.2.2 s'→Step own J aw s s'→kc s'.heap aw r.1 f→R (.ok f) s'):∀aw s' f,b_ c nm fr aw p.2.1 p.2.2 s'→Step own J aw s s'→kc s'.heap aw p.1 f→R (.ok f) s':=Option.some.inj e▸q
theorem OY{fr:cX}(aL:dw nm fr){I:Addr}{wr:List Addr}{nx:fk}{cg:Expr}{lM:V}{lN:Value}{St:Nat→Heap→Prop}(it:mO c I wr nx cg lM lN St){T:V→aN→ao→Option aN}{b:List Stmt}{B:b9}(bg:n7 c nm k cg T)(az:lS c nm k b B):
 ∀(n i:Nat) (J:List Addr) (σ:aN) (H:ao) (s:Shared),St i s.heap→aC s.heap J lM lN→k6 c fr J wr s.heap→b_ c nm fr J σ H s→∀a3 ba H',vN nx T B n i σ H=some (a3,ba,H')→∀(A:Around),cz (k+1) A→∀(R:Result→Shared→Prop),
  (∀aw s' f,b_ c nm fr aw ba H' s'→Step (wr++fr.own) J aw s s'→kc s'.heap aw a3 f→R (.ok f) s')→codeAny (model c.prog c.w) A (.forLoop cg (.ref I) b [] fr.env) R s:=by
 intro n
 induction n with
 |zero=>intro i J σ H s _ _ _ _ a3 ba H' d;exact cn d
 |succ n aK=>
  intro i J σ H s hK pZ X jj a3 ba H' d A a R q
  have cp:cz k (A.under (.forLoop cg (.ref I) b [] fr.env)):=a.loop O2 O0 O1
  refine bQ d fun o aD d=> ?_
  cases o with
  |none=>exact Ey (i' (it.done i J H s hK X.oK jj.h pZ aD _ a.hd _ _ fun ax bt aB hz=>⟨rfl,f6.Bo (R:=R) d q J _ _ (jj.other X aB hz) (.other aB hz fun _=>List.mem_append_left _) rfl⟩))
  |some v=>
   refine bQ d fun b3 c_ d=>pq d fun f2 gy aG dh d=>OZ (it.item i J H s hK X.oK jj.h pZ v aD _ a.hd _ _ fun ax bt w tZ aB lJ hz=> ?_)
   refine bg fr aL J σ H _ (jj.other X aB hz) v w b3 lJ c_ _ cp _ _ fun s3 sQ cB=>az fr aL J b3 H s3 sQ _ _ _ dh _ cp _ _ fun fh s4 f4 vl hP i7=> ?_
   have mx:=cB.trans hP
   have st:Step (wr++fr.own) J fh s s4:=(Step.other aB hz fun _=>List.mem_append_left _).trans (mx.more fun _=>List.mem_append_right _)
   cases f2 with
   |ret u=>
    obtain⟨mH,rfl,cR⟩:=i7
    exact wpAny_pure (f6.Bo (R:=R) d q fh s4 _ vl st ⟨mH,rfl,cR⟩)
   |next=>
    cases i7
    have t0:St (i+1) s4.heap:=it.keep _ _ _ tZ fun x af o e=>mx.ey x o e (X.oK x af) (X.own x af)
    exact wpAny_pure ⟨rfl,aK (i+1) fh gy aG s4 t0 (aC.turn jj X aB mx pZ) (X.step (it.alive _ _ tZ) (it.alive _ _ t0) mx) vl a3 ba H' d A a R fun lO s5 OA n6 fR nz=>q lO s5 OA n6 (st.trans fR) nz⟩
end
theorem ua{prog:Program}{w:World}{A:Around}{E:Value→Shared→Prop}{s:Shared}{Q:Unit→Shared→Prop}{cg:Expr}{I:Addr}{v:Value}{o:Obj}{n:String}{vs:Array Value}(aT:s.heap.get? I=some o)(aU:o.cls= .type n)(hd:o.data= .fields vs)
 (aD:["enumerate","zip","dict_itemiterator","dict_reverseitemiterator","odict_iterator","itertools.zip_longest","itertools.pairwise"].contains n=false) (q:Q () s):wpAny (model prog w) A (letOwnedTupleGo cg (.ref I) v) Q E s:=by
 cases cg with
 |Tuple _ _ _=>
  cases v with
  |ref a=>
   refine wpAny_bind (wpAny_load aT ?_)
   rw[aU,hd]
   dsimp only
   rw[aD,Bool.false_and]
   exact wpAny_pure q
  |_=>exact wpAny_pure q
 |List _ _=>
  cases v with
  |ref a=>
   refine wpAny_bind (wpAny_load aT ?_)
   rw[aU,hd]
   dsimp only
   rw[aD,Bool.false_and]
   exact wpAny_pure q
  |_=>exact wpAny_pure q
 |_=>exact wpAny_pure q
noncomputable def i2(l:Nat):fk:=fun i H=>(h_ H[l]?).map fun xs=>xs[i]?
noncomputable def nt(xs:List V):fk:=fun i _=>some xs[i]?
noncomputable def xh(x:Str):fk:=fun i _=>some ((x.cps[i]?).map fun c=> .str ⟨#[c]⟩)
noncomputable def um(n:Int):fk:=fun i _=>some (if(i:Int)<n then some (.int i)else none)
noncomputable def ul(l:Nat):fk:=fun i H=>(h_ H[l]?).map fun xs=>(xs[i]?).map fun v=> .tup [.int i,v]
theorem fX{α:Type}{P:α→Prop}{a:α}(h:P a):∀b∈[a],P b:=fun b az=>List.mem_singleton.mp az▸h
theorem KH{α:Type}{P:α→Prop}{a b:α}(h:P a)(ax:P b):∀x∈[a,b],P x:=fun x af=>(List.mem_cons.mp af).elim (fun e=>e▸h) fun af=>List.mem_singleton.mp af▸ax
theorem iY{h ax:Heap}{I:Addr}(k:∀b,b≠I→∀o,h.get? b=some o→ax.get? b=some o):∀b o,b∉[I]→h.get? b=some o→ax.get? b=some o:=fun b o az=>k b (fun q=>az (q▸List.mem_cons_self)) o
theorem bL.zG{h:Heap}{J:List Addr}{xs:List V}{vs:List Value}{i:Nat}(r:bL h J xs vs)(e:xs[i]?=none):vs.toArray[i]?=none:=by
 rw[List.getElem?_toArray,List.getElem?_eq_none_iff,←r.length];exact List.getElem?_eq_none_iff.mp e
theorem Ck{J:List Addr}{s:Shared}{ax:Heap}{wr:List Addr}(hd:∀b∈wr,∃o vs,s.heap.get? b=some o∧o.data= .fields vs)(aB:∀b o,b∉wr→s.heap.get? b=some o→ax.get? b=some o){v:V}{w:Value}(r:aC s.heap J v w):aC ax J v w:=
 aC.mono (fun a o e f=>aB a o (fun q=>v_ (hd a q) e f) e) (fun _ _ e=>e) v r
theorem ym.fields{h:Heap}{I a:Addr}{i:Nat}(st:h.IsListIter I a i):∃o vs,h.get? I=some o∧o.data= .fields vs:=st.elim fun o s=>⟨o,_,s.1,s.2.2⟩
theorem TupleIter.fields{h:Heap}{I a:Addr}{i:Nat}(st:h.IsTupleIter I a i):∃o vs,h.get? I=some o∧o.data= .fields vs:=st.elim fun o s=>⟨o,_,s.1,s.2.2⟩
theorem C_.fields{h:Heap}{I:Addr}{ty x t i}(st:h.IsStrIter I ty x t i):∃o vs,h.get? I=some o∧o.data= .fields vs:=st.elim fun o s=>⟨o,_,s.1,s.2.2⟩
section
variable{c:a9}{cg:Expr}
theorem RT(I a:Addr)(l:Nat):mO c I [I] (i2 l) cg (.loc l) (.ref a) (fun i h=>h.IsListIter I a i)where
 keep:=fun i h ax st aB=>st.at fun o e=>aB I List.mem_cons_self o e
 alive:=fun i h st=>fX (ym.fields st)
 self:=fun i A s Q E st q=>wpAny_pyIter_listiter st q
 item:=fun i J H s st hw iN r v e A bU Q E q=>r.rN.elim fun cp aP=>dq e fun xs au e=>iN.hL (Value.ref.inj aP.1▸aP.2) (iv au) fun vs n ah rs=>(rs.get e.symm).elim fun w hw=>
  wpAny_pyNext_list_item st ⟨_,ah,rfl,n,rfl⟩ (List.getElem?_toArray.trans hw.1) fun ax iE eu=>⟨w,rfl,iE.elim fun o aT=>ua (s:={s with heap:=ax}) aT.1 aT.2.1 aT.2.2 (by decide)
   (q ax s.toks w iE (iY fun b az o=>eu.extBut b o az) (Ck (wr:=[I]) (fX (ym.fields st)) (iY fun b az o=>eu.extBut b o az) hw.2))⟩
 done:=fun i J H s st hw iN r e A bU Q E q=>r.rN.elim fun cp aP=>dq e fun xs au e=>iN.hL (Value.ref.inj aP.1▸aP.2) (iv au) fun vs n ah rs=>
  wpAny_pyNext_list_end bU st ⟨_,ah,rfl,n,rfl⟩ (rs.zG e.symm) fun ax jR=>q ax s.toks (iY fun b az o=>jR b o az)
theorem RV(I a:Addr)(xs:List V):mO c I [I] (nt xs) cg (.tup xs) (.ref a) (fun i h=>h.IsTupleIter I a i)where
 keep:=fun i h ax st aB=>st.at fun o e=>aB I List.mem_cons_self o e
 alive:=fun i h st=>fX (TupleIter.fields st)
 self:=fun i A s Q E st q=>wpAny_pyIter_tupleiter st q
 item:=fun i J H s st hw iN r v e A bU Q E q=>aC.tupK (G:=fun w=>w= .ref a→_) r (fun cp vs n aP rs m5=>(rs.get (Option.some.inj e)).elim fun w hw=>
  wpAny_pyNext_tuple_item st ⟨_,Value.ref.inj m5▸aP,rfl,n,rfl⟩ (List.getElem?_toArray.trans hw.1) fun ax iE eu=>⟨w,rfl,iE.elim fun o aT=>ua (s:={s with heap:=ax}) aT.1 aT.2.1 aT.2.2 (by decide)
   (q ax s.toks w iE (iY fun b az o=>eu.extBut b o az) (Ck (wr:=[I]) (fX (TupleIter.fields st)) (iY fun b az o=>eu.extBut b o az) hw.2))⟩) rfl
 done:=fun i J H s st hw iN r e A bU Q E q=>aC.tupK (G:=fun w=>w= .ref a→_) r (fun cp vs n aP rs m5=>
  wpAny_pyNext_tuple_end bU st ⟨_,Value.ref.inj m5▸aP,rfl,n,rfl⟩ (rs.zG (Option.some.inj e)) fun ax jR=>q ax s.toks (iY fun b az o=>jR b o az)) rfl
theorem IsStrIter.at'{h ax:Heap}{a:Addr}{ty x t i}(y:h.IsStrIter a ty x t i)(e:∀o,h.get? a=some o→ax.get? a=some o):ax.IsStrIter a ty x t i:=let⟨o,aT,r⟩:=y;⟨o,e _ aT,r⟩
theorem RR(I:Addr)(x:Str)(t:Tok):mO c I [I] (xh x) cg .none .none (fun i h=>h.IsStrIter I "str_ascii_iterator" x t i)where
 keep:=fun i h ax st aB=>IsStrIter.at' st fun o e=>aB I List.mem_cons_self o e
 alive:=fun i h st=>fX (C_.fields st)
 self:=fun i A s Q E st q=>wpAny_pyIter_striter_ascii st q
 item:=fun i J H s st hw iN r v e A bU Q E q=>dq (Option.some.inj e) fun b4 aU e=>wpAny_pyNext_ascii_item st aU fun ax iE eu=>⟨_,rfl,iE.elim fun o aT=>
  ua (s:={s with heap:=ax,toks:=s.toks+1}) aT.1 aT.2.1 aT.2.2 (by decide) (q ax (s.toks+1) _ iE (iY fun b az o=>eu.extBut b o az) (e▸ .mkStr))⟩
 done:=fun i J H s st hw iN r e A bU Q E q=>wpAny_pyNext_ascii_end bU st (Option.map_eq_none_iff.mp (Option.some.inj e)) fun ax jR=>q ax s.toks (iY fun b az o=>jR b o az)
theorem RW(I:Addr)(x:Str)(t:Tok):mO c I [I] (xh x) cg .none .none (fun i h=>h.IsStrIter I "str_iterator" x t i)where
 keep:=fun i h ax st aB=>IsStrIter.at' st fun o e=>aB I List.mem_cons_self o e
 alive:=fun i h st=>fX (C_.fields st)
 self:=fun i A s Q E st q=>wpAny_pyIter_striter_wide st q
 item:=fun i J H s st hw iN r v e A bU Q E q=>dq (Option.some.inj e) fun b4 aU e=>wpAny_pyNext_wide_item st aU fun ax iE eu=>⟨_,rfl,iE.elim fun o aT=>
  ua (s:={s with heap:=ax,toks:=s.toks+1}) aT.1 aT.2.1 aT.2.2 (by decide) (q ax (s.toks+1) _ iE (iY fun b az o=>eu.extBut b o az) (e▸ .mkStr))⟩
 done:=fun i J H s st hw iN r e A bU Q E q=>wpAny_pyNext_wide_end bU st (Option.map_eq_none_iff.mp (Option.some.inj e)) fun ax jR=>q ax s.toks (iY fun b az o=>jR b o az)
theorem RU(I:Addr)(n:Int):mO c I [I] (um n) cg .none .none (fun i h=>IsRangeIter h I (i:Int) (n - i) 1)where
 keep:=fun i h ax st aB=>aB I List.mem_cons_self _ st
 alive:=fun i h st=>fX ⟨_,_,st,rfl⟩
 self:=fun i A s Q E st q=>wpAny_pyIter_rangeiter st q
 item:=fun i J H s st hw iN r v e A bU Q E q=>c3 (Option.some.inj e) fun hi e=>wpAny_pyNext_range_item st (Int.sub_pos_of_lt hi) fun ax iE eu=>⟨_,rfl,
  ua (s:={s with heap:=ax,toks:=s.toks+1}) iE rfl rfl (by decide) (q ax (s.toks+1) _ (by
   show IsRangeIter ax I ((i:Int)+1) (n -((i:Int)+1)) 1
   rw[←Int.sub_sub];exact iE) (iY fun b az o=>eu.extBut b o az) (Option.some.inj e▸ .mkInt))⟩
 done:=fun i J H s st hw iN r e A bU Q E q=>by
  have e:=Option.some.inj e
  by_cases h:(i:Int)<n
  ·rw[if_pos h] at e;cases e
  ·exact wpAny_pyNext_range_end bU st (Int.sub_nonpos_of_le (Int.not_lt.mp h)) fun ax jR=>q ax s.toks (iY fun b az o=>jR b o az)
theorem D9{h:Heap}{e it a:Addr}{i:Nat}(st:(∃old,IsEnum h e it i old)∧h.IsListIter it a i):∀b∈[e,it],∃o vs,h.get? b=some o∧o.data= .fields vs:=KH (st.1.elim fun _ he=>⟨_,_,he,rfl⟩) (ym.fields st.2)
theorem w8{e it b:Addr}(h:b∉[e,it]):b≠e∧b≠it:=⟨fun q=>h (q▸List.mem_cons_self),fun q=>h (q▸List.mem_cons_of_mem _ List.mem_cons_self)⟩
theorem RS(e it a:Addr)(l:Nat)(Fz:e≠it){elts:List Expr}{fc:Nat}{pos:Pos}:mO c e [e,it] (ul l) (.Tuple elts fc pos) (.loc l) (.ref a) (fun i h=>(∃old,IsEnum h e it i old)∧h.IsListIter it a i)where
 keep:=fun i h ax st aB=>⟨st.1.elim fun old he=>⟨old,aB e List.mem_cons_self _ he⟩,st.2.at fun o x=>aB it (List.mem_cons_of_mem _ List.mem_cons_self) o x⟩
 alive:=fun i h st=>D9 st
 self:=fun i A s Q E st q=>st.1.elim fun old he=>wpAny_pyIter_enum he q
 item:=fun i J H s st hw iN r v ev A bU Q E q=>st.1.elim fun old he=>r.rN.elim fun cp aP=>dq ev fun xs au ev=>iN.hL (Value.ref.inj aP.1▸aP.2) (iv au) fun vs n ah rs=>dq ev.symm fun x af ev=>(rs.get af).elim fun w hw=>by
  refine wpAny_pyNext_enum_item he st.2 ⟨_,ah,rfl,n,rfl⟩ (List.getElem?_toArray.trans hw.1) Fz fun ax aT iE c_ iW aB=>⟨_,rfl,wpAny_letOwnedTupleGo_enum aT fun ah jR eu=> ?_⟩
  have wy:∀b o,b∉[e,it]→s.heap.get? b=some o→ah.get? b=some o:=fun b o az x=>(eu.2 b (w8 az).1).trans (aB b o (w8 az).1 (w8 az).2 x)
  exact q ah (s.toks+1) _ ⟨⟨w,jR⟩,iE.at fun o y=>(eu.2 it Fz.symm).trans y⟩ wy (ev▸⟨_,[.int i s.toks,w],0,rfl,(eu.2 _ (Nat.ne_of_gt (Heap.lt_size he))).trans c_, .ai .mkInt (.one (Ck (D9 st) wy hw.2))⟩)
 done:=fun i J H s st hw iN r ev A bU Q E q=>st.1.elim fun old he=>r.rN.elim fun cp aP=>dq ev fun xs au ev=>iN.hL (Value.ref.inj aP.1▸aP.2) (iv au) fun vs n ah rs=>
  wpAny_pyNext_enum_end bU he st.2 ⟨_,ah,rfl,n,rfl⟩ (rs.zG (Option.map_eq_none_iff.mp ev.symm)) fun ax af=>q ax s.toks fun b o az y=>af b o (w8 az).2 y
end
noncomputable abbrev fH:=aN→ao→Option (fk×ao)
noncomputable def ph(c:a9)(nm:a5)(k:Nat)(e cg:Expr)(D:fH):Prop:=
 ∀(fr:cX),dw nm fr→∀(J:List Addr) (σ:aN) (H:ao) (s:Shared),aX c J H s→dm c nm fr J σ s→∀nx H',D σ H=some (nx,H')→
  ∀(A:Around),cz k A→∀(Q E:Value→Shared→Prop),
   (∀aw s' I wr St v w,mO c I wr nx cg v w St→St 0 s'.heap→aC s'.heap aw v w→aX c aw H' s'→Step [] J aw s s'→(∀b∈wr,s.heap.objs.size≤b∧b∉aw)→Q (.ref I) s')→
   wpAny (model c.prog c.w) A (eval e fr.env) (fun x s1=>wpAny (model c.prog c.w) A (pyIter x) Q E s1) E s
noncomputable def Bl(v:V)(H:ao):Option fk:=match v with
 | .loc l=>(h_ H[l]?).map fun _=>i2 l
 | .tup xs=>some (nt xs)
 | .str x=>some (xh x)
 |_=>none
noncomputable def cP(D:a0):fH:=cC D fun v _ H1=>(Bl v H1).map (·,H1)
noncomputable def Jt(v:V):Option fk:=(jk v).bind fun n=>if n.natAbs<2^60 then some (um (if 0<n then n else 0))else none
noncomputable def q'(D:a0):fH:=cC D fun v _ H1=>(Jt v).map (·,H1)
noncomputable def NH(v:V)(H:ao):Option fk:=(lb v).bind fun l=>(h_ H[l]?).map fun _=>ul l
noncomputable def te(D:a0):fH:=cC D fun v _ H1=>(NH v H1).map (·,H1)
section
variable{c:a9}{nm:a5}{k:Nat}{cg:Expr}
theorem ot{J:List Addr}{H:ao}{s:Shared}(I:aX c J H s){a:Addr}(h:s.heap.objs.size≤a):a∉J:=fun q=>absurd (I.lt q) (Nat.not_lt.mpr h)
theorem dX{e:Expr}{D:a0}(h:bA c nm k e D):ph c nm k e cg (cP D):=by
 intro fr aL J σ H s I F nx H' d A a Q E q
 refine pn d fun v ag d=>h.at aL I F ag a fun cy s1 c1 br dO bo bl=> ?_
 cases v with
 |loc l=>
  refine dq d fun xs au e=>bl.gr (G:=fun w=>wpAny _ A (pyIter w) Q E s1) fun dg aP=>br.hL aP (iv au) fun vs n ah rs=>wpAny_pyIter_list (items:=vs.toArray) ⟨_,ah,rfl,n,rfl⟩ ?_
  exact q cy _ _ [s1.heap.objs.size] _ (.loc l) (.ref dg) (e▸RT _ dg l) ⟨_,Heap.get?_push_size _ rfl,rfl,rfl⟩ ⟨dg,rfl,aP⟩ br.push (bo.trans .push) (fX ⟨bo.size,ot br (Nat.le_refl _)⟩)
 |tup xs=>
  refine bl.tupK (G:=fun w=>wpAny _ A (pyIter w) Q E s1) fun dg vs n aP rs=>wpAny_pyIter_tuple (items:=vs.toArray) ⟨_,aP,rfl,n,rfl⟩ ?_
  exact q cy _ _ [s1.heap.objs.size] _ (.tup xs) (.ref dg) (Option.some.inj d▸RV _ dg xs) ⟨_,Heap.get?_push_size _ rfl,rfl,rfl⟩ (aC.step br .push (v:= .tup xs) ⟨dg,vs,n,rfl,aP,rs⟩) br.push (bo.trans .push) (fX ⟨bo.size,ot br (Nat.le_refl _)⟩)
 |str x=>
  refine bl.ff (G:=fun w=>wpAny _ A (pyIter w) Q E s1) fun t=> ?_
  cases af:x.cps.all (· <128)with
  |true=>exact wpAny_pyIter_ascii af (q cy _ _ [s1.heap.objs.size] _ .none .none (Option.some.inj d▸RR _ x t) ⟨_,Heap.get?_push_size _ rfl,rfl,rfl⟩ .mkNone br.push (bo.trans .push) (fX ⟨bo.size,ot br (Nat.le_refl _)⟩))
  |false=>exact wpAny_pyIter_wide af (q cy _ _ [s1.heap.objs.size] _ .none .none (Option.some.inj d▸RW _ x t) ⟨_,Heap.get?_push_size _ rfl,rfl,rfl⟩ .mkNone br.push (bo.trans .push) (fX ⟨bo.size,ot br (Nat.le_refl _)⟩))
 |_=>exact cn d
theorem ur{e:Expr}{D:a0}(h:bA c nm k e D)(aY:∀rest env,starEach (e::rest) env=(false,eval e env)::starEach rest env:=by intro _ _;rfl):f7 c nm k [e] [D]:= .cons h .nil aY
theorem DU{D:a0}{σ:aN}{H H1:ao}{v:V}(h:D σ H=some (v,H1)):eH [D] σ H=some ([v],H1):=by show(D σ H).bind _=_;rw[h];rfl
theorem bL.Uh{h:Heap}{J:List Addr}{v:V}{ws:List Value}(r:bL h J [v] ws):∃w,ws=[w]∧aC h J v w:=by
 obtain⟨w,da,rfl,a,b⟩:=r
 rw[show da=[]from b]
 exact⟨w,rfl,a⟩
theorem bL.Br{h:Heap}{J:List Addr}{v:V}{ws:List Value}{G:List Value→Prop}(r:bL h J [v] ws)(k:∀w,aC h J v w→G [w]):G ws:=by
 obtain⟨w,rfl,a⟩:=r.Uh
 exact k w a
theorem DD{e:Expr}{x:Str}{T:String}{p pos:Pos}{D:a0}(hf:bA c nm k (.Name x p) (aj (.st (.type T))))(h:f7 c nm k [e] [D]){fr:cX}(aL:dw nm fr){J:List Addr}{σ:aN}{H H1:ao}{s:Shared}(I:aX c J H s)(F:dm c nm fr J σ s){v:V}
 (ag:D σ H=some (v,H1)) {A:Around} (a:cz k A) {Q E:Value→Shared→Prop} (q:∀ct s2 w,aX c ct H1 s2→Step [] J ct s s2→aC s2.heap ct v w→wpAny (model c.prog c.w) A (call (.type T) [w] []) Q E s2):
 wpAny (model c.prog c.w) A (eval (.Call (.Name x p) [e] [] pos) fr.env) Q E s:=by
 refine Call_Name rfl (hf.at aL I F rfl a fun cy s1 c1 br dO bo bl=> ?_)
 rw[bl.my]
 exact q7 (c:=c) _ (uy h) (xB aL h br dO (DU ag) a fun ct s2 ws bx eO bB bN=>⟨bx.keep,bN.Br (G:=fun ws=>wpAny _ A (call _ ([]++(Args.mk ws []).pos) []) Q E s2) fun w cR=>q ct s2 w bx (bo.trans bB) cR⟩)
theorem J2{e:Expr}{x:Str}{p pos:Pos}{D:a0}(hf:bA c nm k (.Name x p) (aj (.st (.type "range"))))(h:f7 c nm k [e] [D]):ph c nm k (.Call (.Name x p) [e] [] pos) cg (q' D):=by
 intro fr aL J σ H s I F nx H' d A a Q E q
 refine pn (f:=fun v _=>Jt v) d fun v ag d=>bQ d fun n aD e=>c3 e fun hz e=>DD hf h aL I F ag a fun ct s2 w bx bB cR=>aC.fM (G:=fun w=>wpAny _ A (call _ [w] []) _ E s2) (k' aD▸cR) fun t=>call_range_1 ?_
 have az:=uf hz
 refine wpAny_pyIter_range (IsRange.new s2.heap 0 n 1 s2.toks t (s2.toks+1)) (small_one (a:=0) (b:=n) (by decide) (by decide) (Int.le_of_lt (Int.lt_trans (by decide) az.1)) (Int.lt_trans az.2 (by decide))) ?_
 have c0:=bx.push (o:={cls:= .type "range",data:= .fields #[.int 0 s2.toks, .int n t, .int 1 (s2.toks+1)]}) (t:=s2.toks+1+1)
 have st:=bB.trans (Step.push (o:={cls:= .type "range",data:= .fields #[.int 0 s2.toks, .int n t, .int 1 (s2.toks+1)]}) (t:=s2.toks+1+1))
 refine q ct _ _ [(s2.heap.push {cls:= .type "range",data:= .fields #[.int 0 s2.toks, .int n t, .int 1 (s2.toks+1)]}).objs.size] _ .none .none (Option.some.inj e▸RU _ _) ?_ .mkNone c0.push (st.trans .push) (fX ⟨st.size,ot c0 (Nat.le_refl _)⟩)
 show IsRangeIter _ _ _ ((if 0<n then n else 0) -((0:Nat):Int)) _
 rw[rangeSize_one,show((if 0<n then n else 0) -((0:Nat):Int))=(if 0<n then n - 0 else 0)by rw[Int.sub_zero];exact Int.sub_zero _]
 exact Heap.get?_push_size (s2.heap.push {cls:= .type "range",data:= .fields #[.int 0 s2.toks, .int n t, .int 1 (s2.toks+1)]}) (o:={cls:= .type "range_iterator",data:= .fields #[rawInt 0,rawInt (if 0<n then n - 0 else 0),rawInt 1]}) rfl
theorem BO{e:Expr}{x:Str}{p pos:Pos}{D:a0}(hf:bA c nm k (.Name x p) (aj (.st (.type "enumerate"))))(h:f7 c nm k [e] [D]){elts:List Expr}{fc:Nat}{j3:Pos}:
 ph c nm k (.Call (.Name x p) [e] [] pos) (.Tuple elts fc j3) (te D):=by
 intro fr aL J σ H s I F nx H' d A a Q E q
 refine pn d fun v ag d=>bQ d fun l aR d=>dq d fun xs au e=>DD hf h aL I F ag a fun ct s2 w bx bB cR=>aC.gr (G:=fun w=>wpAny _ A (call _ [w] []) _ E s2) (mZ aR▸cR) fun dg aP=>bx.hL aP (iv au) fun vs n ah rs=> ?_
 refine call_enumerate_1 (items:=vs.toArray) ah fun ax he hit hz aB=>wpAny_pyIter_enum he ?_
 have gp:s2.heap.objs.size≤ax.objs.size:=hz▸Nat.le_add_right ..
 exact q ct _ _ [s2.heap.objs.size+1,s2.heap.objs.size] _ (.loc l) (.ref dg) (e▸RS _ _ dg l (Nat.succ_ne_self _)) ⟨⟨_,he⟩,hit⟩ ⟨dg,rfl,aP⟩ (bx.grow (s':={s2 with heap:=ax}) aB gp) (bB.trans (.grow (s':={s2 with heap:=ax}) aB gp rfl rfl))
  (KH ⟨Nat.le_succ_of_le bB.size,ot bx (Nat.le_succ _)⟩ ⟨bB.size,ot bx (Nat.le_refl _)⟩)
theorem EA{fr:cX}{J aw:List Addr}{H:ao}{s s':Shared}{σ:aN}(I:aX c J H s)(F:dm c nm fr J σ s){wr:List Addr}(hw:∀b∈wr,s.heap.objs.size≤b∧b∉aw)(hd:∀b∈wr,∃o vs,s'.heap.get? b=some o∧o.data= .fields vs):k6 c fr aw wr s'.heap:=by
 refine⟨fun b az=>(hw b az).2,fun b az=>(I.fresh (hw b az).1).2,fun b az q=> ?_,fun q=> ?_,fun b az v aU=> ?_,fun b az o e=>v_ (hd b az) e⟩
 ·obtain⟨_,_,o,aT,_⟩:=F.own b q
  exact absurd (Heap.lt_size aT) (Nat.not_lt.mpr (hw b az).1)
 ·obtain⟨m,aD,_,_⟩:=F.loc
  obtain⟨o,av,ep,aT,_⟩:=aD
  exact absurd (Heap.lt_size aT) (Nat.not_lt.mpr (hw _ q).1)
 ·obtain⟨o,vs,aT,e7⟩:=hd b az
  obtain⟨cF,ek,Qt⟩:=aU
  rw[aT] at ek;cases ek;exact nomatch e7.symm.trans Qt
noncomputable def dz(D:fH)(T:V→aN→ao→Option aN)(B:b9):b9:=cC D fun nx=>vN nx T B kx 0
theorem cz.pred{k:Nat}{A:Around}(h:cz (k+1) A):cz k A:=h.le (Nat.le_succ k)
theorem eU{e:Expr}{D:fH}{T:V→aN→ao→Option aN}{b:List Stmt}{B:b9}{pos:Pos}(h:ph c nm k e cg D)(bg:n7 c nm k cg T)(az:lS c nm k b B)(aY:∀env x,foldedSetIterable e env x=pure x:=by intro _ _;rfl):
 eC c nm (k+1) (.For cg e b [] pos) (dz D T B):=by
 intro fr aL J σ H s I a3 ba H' d A a Q E q
 refine dp d fun nx H1 ag d=>wpAny_For (h fr aL J σ H s I.h I.f _ _ ag A a.pred _ E fun cy s1 yi wr St v w it j0 bl br bo hw=> ?_) (aY _)
 exact OY aL it bg az kx 0 cy σ H1 s1 j0 bl (EA I.h I.f hw (it.alive 0 _ j0)) (I.step br bo) a3 ba H' d A a _ fun ct s2 f2 bx bB bN=>
  q ct s2 f2 bx (Step.less (bo.weaken.trans bB) fun b az=>(List.mem_append.mp az).elim (fun x=> .inr (hw b x).1) .inl) bN
noncomputable def vU:Option aM→Option Unit
 |some (.aS [])=>some ()
 |some (.gd [])=>some ()
 |_=>none
theorem NE{c:a9}{J:List Addr}{H:ao}{s:Shared}(I:aX c J H s){l:Nat}{dg:Addr}(aP:J[l]?=some dg){u:Unit}{G:Prop}(e:vU H[l]?=some u)(k:∀n,s.heap.get? dg=some (df [] n)→G):G:=by
 cases au:H[l]? with
 |none=>rw[au] at e;exact cn e
 |some m=>
  rw[au] at e
  refine I.mh aP au fun o ah aE=> ?_
  cases m with
  |aS ps=>
   cases ps with
   |nil=>obtain⟨av,n,rfl,rs,_⟩:=aE;obtain rfl:av=[]:=rs;exact k n ah
   |cons _ _=>exact cn e
  |gd ps=>
   cases ps with
   |nil=>obtain⟨av,n,rfl,rs,_⟩:=aE;obtain rfl:av=[]:=rs;exact k n ah
   |cons _ _=>exact cn e
  |_=>exact cn e
noncomputable def q_(D:a0):b9:=cC D fun v σ H1=>(lb v).bind fun l=>(vU H1[l]?).bind fun _=>some (.next,σ,H1)
theorem J0(ok:c.Ok){e:Expr}{D:a0}{b:List Stmt}{pos:Pos}(h:bA c nm k e D)(aY:∀env x,foldedSetIterable e env x=pure x:=by intro _ _;rfl):
 eC c nm (k+1) (.For cg e b [] pos) (q_ D):=by
 intro fr aL J σ H s I a3 ba H' d A a Q E q
 refine dp d fun v H1 ag d=>bQ d fun l aR d=>bQ d fun _ au d=>wpAny_For (h.at aL I.h I.f ag a.pred fun cy s1 c1 br dO bo bl=> ?_) (aY _)
 refine aC.gr (G:=fun w=>wpAny _ A (pyIter w) _ E s1) (mZ aR▸bl) fun dg aP=>NE br aP au fun n af=> ?_
 have hm:s1.heap.DictAt (strKind c.prog c.w) dg [] n:=⟨_,#[],af,⟨rfl,rfl,rfl⟩,rfl,fun _ h=>by simp at h, .nil, .nil⟩
 refine wpAny_pyIter_dict (qb ok br (List.mem_of_getElem? aP)) hm (Ey (i' (wpAny_pyNext_dict_end (kvs:=[]) (knd:=strKind c.prog c.w) a.hd ⟨_,Heap.get?_push_size _ rfl,rfl,rfl⟩ (hm.at' fun o e=>Heap.get?_push_of_some _ e) rfl fun ax jR hz=>⟨rfl,?_⟩)))
 have hw:∀b∈[s1.heap.objs.size],s.heap.objs.size≤b∧b∉cy:=fX ⟨bo.size,ot br (Nat.le_refl _)⟩
 have LV:=I.step (br.push (o:={cls:= .type "dict_keyiterator",data:= .fields #[.ref dg, .int 0 0, .int 0 0, .int n 0]}) (t:=s1.toks)) (bo.trans .push)
 have X:=EA (s':={s1 with heap:=s1.heap.push {cls:= .type "dict_keyiterator",data:= .fields #[.ref dg, .int 0 0, .int 0 0, .int n 0]}}) I.h I.f hw (fX (P:=fun b=>∃o vs,(s1.heap.push {cls:= .type "dict_keyiterator",data:= .fields #[.ref dg, .int 0 0, .int 0 0, .int n 0]}).get? b=some o∧o.data= .fields vs) ⟨_,_,Heap.get?_push_size _ rfl,rfl⟩)
 have nc:=iY (I:=s1.heap.objs.size) fun b az o=>jR b o az
 have cB:=Step.other (own:=[s1.heap.objs.size]) (J:=cy) (s:={s1 with heap:=s1.heap.push {cls:= .type "dict_keyiterator",data:= .fields #[.ref dg, .int 0 0, .int 0 0, .int n 0]}}) (t:=s1.toks) nc hz (fun b az=>az)
 exact f6.Bo (R:=fun r s=>∀f,r= .ok f→Q f s) d (fun aw s' f c4 st r _ e=>by cases e;exact q aw s' f c4 st r) cy _ _ (LV.other (t:=s1.toks) X nc hz) (Step.less ((bo.trans .push).weaken.trans cB) fun b az=> .inr (hw b az).1) rfl _ rfl
end
noncomputable def nS{K:Type}(h:Heap)(J:List Addr):List (K×V)→List (K×Value)→Prop
 |[],kvs=>kvs=[]
 |(x,v)::ps,kvs=>∃u r,kvs=(x,u)::r∧aC h J v u∧nS h J ps r
theorem nS.keys{K:Type}{h:Heap}{J:List Addr}{ps:List (K×V)}:∀{kvs:List (K×Value)},nS h J ps kvs→kvs.map (·.1)=ps.map (·.1):=by
 induction ps with
 |nil=>intro kvs q;rw[show kvs=[]from q];rfl
 |cons p ps aK=>rintro kvs ⟨u,r,rfl,_,b⟩;exact congrArg (p.1:: ·) (aK b)
theorem S_{α:Type}{f:α→α}{l:List α}(h:∀a∈l,f a=a):l.map f=l:=(List.map_congr_left h).trans (List.map_id l)
theorem Wb{K:Type} [DecidableEq K]{x:K}{u fG:Value}{r:List (K×Value)}(h:x∉r.map (·.1)):stored ((x,fG)::r) x u=(x,u)::r:=by
 unfold stored
 rw[if_pos (by simp),List.map_cons,if_pos rfl,S_ fun a aP=>if_neg fun q=>h (List.mem_map.mpr ⟨a,aP,q⟩)]
theorem Wc{K:Type} [DecidableEq K]{x k:K}{u fG:Value}{r:List (K×Value)}(h:¬x=k):stored ((x,fG)::r) k u=(x,fG)::stored r k u:=by
 unfold stored
 rw[List.any_cons,List.map_cons,if_neg h,decide_eq_false h,Bool.false_or]
 split<;>rfl
theorem Nb{K:Type} [DecidableEq K]{h:Heap}{J:List Addr}{k:K}{v:V}{u:Value}(r:aC h J v u){ps:List (K×V)}:∀{kvs:List (K×Value)},(ps.map (·.1)).Nodup→nS h J ps kvs→nS h J (b0 k v ps) (stored kvs k u):=by
 induction ps with
 |nil=>intro kvs _ q;rw[show kvs=[]from q];exact⟨u,[],rfl,r,rfl⟩
 |cons p ps aK=>
  rintro kvs bk ⟨fG,da,rfl,a,b⟩
  have bk:=List.nodup_cons.mp bk
  show nS h J (if p.1=k then(p.1,v)::ps else(p.1,p.2)::b0 k v ps) _
  by_cases af:p.1=k
  ·subst af
   rw[if_pos rfl,Wb (b.keys▸bk.1)]
   exact⟨u,da,rfl,r,b⟩
  ·rw[if_neg af,Wc af]
   exact⟨fG,_,rfl,a,aK bk.2 b⟩
noncomputable def g7{prog:Program}{w:World}{K:Type} [DecidableEq K](knd:PySem.KeyKind prog w K)(h:Heap)(J:List Addr):List (K×V)→List DictEntry→Prop
 |[],av=>av=[]
 |(x,v)::ps,av=>∃key u r,av=⟨knd.hash x,key,u⟩::r∧knd.is x key=true∧aC h J v u∧g7 knd h J ps r
section
variable{prog:Program}{w:World}{K:Type} [DecidableEq K]{h:Heap}{J:List Addr}
theorem fl.toG{ps:List (Str×V)}:∀{av:List DictEntry},fl w h J ps av→g7 (PySem.strKind prog w) h J ps av:=by
 induction ps with
 |nil=>exact id
 |cons p ps aK=>rintro av ⟨t,u,r,e,a,b⟩;exact⟨.str p.1 t,u,r,e,strKind_is prog w p.1 t,a,aK b⟩
theorem g7.toS{ps:List (Str×V)}:∀{av:List DictEntry},g7 (PySem.strKind prog w) h J ps av→fl w h J ps av:=by
 induction ps with
 |nil=>exact id
 |cons p ps aK=>
  rintro av ⟨key,u,r,e,k,a,b⟩
  obtain⟨t,rfl⟩:=Value.isStrOf_shape k
  exact⟨t,u,r,e,a,aK b⟩
theorem ke.toG{ps:List (Int×V)}:∀{av:List DictEntry},ke h J ps av→g7 (PySem.intKind prog w) h J ps av:=by
 induction ps with
 |nil=>exact id
 |cons p ps aK=>rintro av ⟨t,u,r,e,a,b⟩;exact⟨.int p.1 t,u,r,e,beq_self_eq_true p.1,a,aK b⟩
theorem g7.Ky{ps:List (Int×V)}:∀{av:List DictEntry},g7 (PySem.intKind prog w) h J ps av→ke h J ps av:=by
 induction ps with
 |nil=>exact id
 |cons p ps aK=>
  rintro av ⟨key,u,r,e,k,a,b⟩
  obtain⟨t,rfl⟩:=Value.isInt_shape k
  exact⟨t,u,r,e,a,aK b⟩
noncomputable def mN(knd:PySem.KeyKind prog w K)(h:Heap)(J:List Addr)(ps:List (K×V))(av:List DictEntry)(kvs:List (K×Value)):Prop:=Pairs knd av kvs∧(∀e∈av,∃k,knd.is k e.key=true∧e.hash=knd.hash k)∧nS h J ps kvs
theorem g7.of{knd:PySem.KeyKind prog w K}{ps:List (K×V)}:∀{av:List DictEntry},g7 knd h J ps av→∃kvs,mN knd h J ps av kvs:=by
 induction ps with
 |nil=>intro av q;rw[show av=[]from q];exact⟨[], .nil,fun _ h=>(nomatch h),rfl⟩
 |cons p ps aK=>
  rintro av ⟨key,u,r,rfl,k,a,b⟩
  exact(aK b).elim fun kvs g=>⟨(p.1,u)::kvs, .cons k rfl g.1,fun e he=>(List.mem_cons.mp he).elim (fun he=>⟨p.1,he▸k,he▸rfl⟩) (g.2.1 e),u,kvs,rfl,a,g.2.2⟩
theorem g7.back{knd:PySem.KeyKind prog w K}{ps:List (K×V)}:∀{av:List DictEntry} {kvs:List (K×Value)},Pairs knd av kvs→(∀e∈av,∃k,knd.is k e.key=true∧e.hash=knd.hash k)→nS h J ps kvs→g7 knd h J ps av:=by
 induction ps with
 |nil=>intro av kvs p _ q;rw[show kvs=[]from q] at p;cases p;rfl
 |cons UJ ps aK=>
  rintro av kvs p aB ⟨u,r,rfl,a,b⟩
  cases p with
  | @cons e _ d_ _ ag ah aE=>
   obtain⟨k,QU,wy⟩:=aB e List.mem_cons_self
   have ak:=knd.inj _ _ _ ag QU
   exact⟨e.key,u,d_,by rw[show knd.hash UJ.1=e.hash from ak▸wy.symm,show u=e.val from ah.symm],ag,a,aK aE (fun e he=>aB e (List.mem_cons_of_mem _ he)) b⟩
variable{A:Around}{E:Value→Shared→Prop}{s:Shared}
theorem El{o:Obj}{av:Array DictEntry}{ep:Nat}(h:o.ExactDict)(hd:o.data= .dict av ep):o=df av.toList ep:=by
 obtain⟨ag,ah,aE⟩:=h
 show o=⟨_,_, .dict av ep,_⟩
 rw[←ag,←ah,←aE,←hd]
theorem mN.dict{knd:PySem.KeyKind prog w K}{d:Addr}{av:List DictEntry}{n:Nat}{ps:List (K×V)}{kvs:List (K×Value)}(g:mN knd h J ps av kvs)(hd:h.get? d=some (df av n))(bk:(ps.map (·.1)).Nodup):h.DictOf knd d kvs:=
 ⟨_,av.toArray,n,hd,⟨rfl,rfl,rfl⟩,rfl,fun e he=>g.2.1 e (List.mem_toArray.mp he),g.1,g.2.2.keys▸bk⟩
theorem mN.dictAt{knd:PySem.KeyKind prog w K}{d:Addr}{av:List DictEntry}{n:Nat}{ps:List (K×V)}{kvs:List (K×Value)}(g:mN knd h J ps av kvs)(hd:h.get? d=some (df av n))(bk:(ps.map (·.1)).Nodup):h.DictAt knd d kvs n:=
 ⟨_,av.toArray,hd,⟨rfl,rfl,rfl⟩,rfl,fun e he=>g.2.1 e (List.mem_toArray.mp he),g.1,g.2.2.keys▸bk⟩
theorem mN.room{knd:PySem.KeyKind prog w K}{av:List DictEntry}{ps:List (K×V)}{kvs:List (K×Value)}(g:mN knd h J ps av kvs)(hz:ps.length≤1000):kvs.length≤sizeLine:=by
 have:=congrArg List.length g.2.2.keys
 rw[List.length_map,List.length_map] at this
 rw[this,sizeLine_eq];exact Nat.le_trans hz (by decide)
theorem mN.after{knd:PySem.KeyKind prog w K}{d:Addr}{av:List DictEntry}{ps:List (K×V)}{kvs:List (K×Value)}{k:K}{u:Value}{v:V}{ax:Heap}{G:Prop}(g:mN knd h J ps av kvs)(bk:(ps.map (·.1)).Nodup)(r:aC h J v u)(hm:ax.DictOf knd d (stored kvs k u))
 (q:∀d_ fP,ax.get? d=some (df d_ fP)→g7 knd h J (b0 k v ps) d_→G):G:=by
 obtain⟨o,d_,ep,aT,af,zR,aB,aH,aD⟩:=hm
 exact q d_.toList ep (El af zR▸aT) (g7.back aH (fun e he=>aB e (Array.mem_toList_iff.mp he)) (Nb r bk g.2.2))
theorem EQ{knd:PySem.KeyKind prog w K}{d:Addr}{av:List DictEntry}{n:Nat}{ps:List (K×V)}{k:K}{key u:Value}{v:V}{Q:Unit→Shared→Prop}(nd:knd.is k key=true)(hd:s.heap.get? d=some (df av n))(g:g7 knd s.heap J ps av)
 (bk:(ps.map (·.1)).Nodup) (hz:ps.length≤1000) (r:aC s.heap J v u)
 (q:∀ax d_ fP,Heap.SameBut d s.heap ax→ax.get? d=some (df d_ fP)→g7 knd s.heap J (b0 k v ps) d_→Q () {s with heap:=ax,toks:=s.toks+1}):wpAny (model prog w) A (setItem (.ref d) key u) Q E s:=by
 obtain⟨kvs,g⟩:=g.of
 refine wpAny_setItem_pairs nd (g.dict hd bk) (fun ax kB aY=>g.after bk r kB fun d_ ep aT lq=>q ax d_ ep aY aT lq) (g.room hz)
end
noncomputable def lT{K:Type}(h:Heap)(J:List Addr):List (K×V)→List (K×Addr×Value)→Prop
 |[],xs=>xs=[]
 |(x,v)::ps,xs=>∃a u r,xs=(x,a,u)::r∧aC h J v u∧lT h J ps r
section
variable{prog:Program}{w:World}{K:Type} [DecidableEq K]{h:Heap}{J:List Addr}
theorem lT.keys{ps:List (K×V)}:∀{xs:List (K×Addr×Value)},lT h J ps xs→xs.map (·.1)=ps.map (·.1):=by
 induction ps with
 |nil=>intro xs q;rw[show xs=[]from q];rfl
 |cons p ps aK=>rintro xs ⟨a,u,r,rfl,_,b⟩;exact congrArg (p.1:: ·) (aK b)
theorem Ds{x:K}{a:Addr}{u:Value}{r:List (K×Addr×Value)}:atKey ((x,a,u)::r) x=some (a,u):=by
 unfold atKey;rw[List.find?_cons,show decide ((x,a,u).1=x)=true from decide_eq_true rfl];rfl
theorem Dt{x k:K}{a:Addr}{u:Value}{r:List (K×Addr×Value)}(h:¬x=k):atKey ((x,a,u)::r) k=atKey r k:=by
 unfold atKey;rw[List.find?_cons,show decide ((x,a,u).1=k)=false from decide_eq_false h]
theorem V'{x:K}{a cp:Addr}{u fG:Value}{r:List (K×Addr×Value)}(h:x∉r.map (·.1)):storedH ((x,cp,fG)::r) x a u=(x,cp,u)::r:=by
 unfold storedH
 rw[Ds]
 show((x,cp,fG)::r).map (putAt x u)=_
 rw[List.map_cons,map_putAt_of_not_mem r x u h]
 exact congrArg (· ::r) (if_pos rfl)
theorem Wa{x k:K}{a cp:Addr}{u fG:Value}{r:List (K×Addr×Value)}(h:¬x=k):storedH ((x,cp,fG)::r) k a u=(x,cp,fG)::storedH r k a u:=by
 unfold storedH
 rw[Dt h,List.map_cons,show putAt k u (x,cp,fG)=(x,cp,fG)from if_neg h]
 split<;>rfl
theorem WH{k:K}{v:V}{a:Addr}{u:Value}(r:aC h J v u){ps:List (K×V)}:∀{xs:List (K×Addr×Value)},(ps.map (·.1)).Nodup→lT h J ps xs→lT h J (b0 k v ps) (storedH xs k a u):=by
 induction ps with
 |nil=>intro xs _ q;rw[show xs=[]from q];exact⟨a,u,[],rfl,r,rfl⟩
 |cons p ps aK=>
  rintro xs bk ⟨cp,fG,da,rfl,aR,b⟩
  have bk:=List.nodup_cons.mp bk
  show lT h J (if p.1=k then(p.1,v)::ps else(p.1,p.2)::b0 k v ps) _
  by_cases af:p.1=k
  ·subst af
   rw[if_pos rfl,V' (b.keys▸bk.1)]
   exact⟨cp,u,da,rfl,r,b⟩
  ·rw[if_neg af,Wa af]
   exact⟨cp,fG,_,rfl,aR,aK bk.2 b⟩
theorem iu.of{knd:PySem.HeapKind prog w K}{ps:List (K×V)}:∀{av:List DictEntry},iu knd h J ps av→∃xs,av=xs.map (entryOfKey knd)∧(∀x∈xs,knd.is h x.1 x.2.1)∧lT h J ps xs:=by
 induction ps with
 |nil=>intro av q;rw[show av=[]from q];exact⟨[],rfl,fun _ h=>(nomatch h),rfl⟩
 |cons p ps aK=>
  rintro av ⟨a,u,r,rfl,k,aR,b⟩
  exact(aK b).elim fun xs g=>⟨(p.1,a,u)::xs,congrArg (_:: ·) g.1,fun y aQ=>(List.mem_cons.mp aQ).elim (fun aQ=>aQ▸k) (g.2.1 y),a,u,xs,rfl,aR,g.2.2⟩
theorem iu.back{knd:PySem.HeapKind prog w K}{ps:List (K×V)}:∀{xs:List (K×Addr×Value)},(∀x∈xs,knd.is h x.1 x.2.1)→lT h J ps xs→iu knd h J ps (xs.map (entryOfKey knd)):=by
 induction ps with
 |nil=>intro xs _ q;rw[show xs=[]from q];rfl
 |cons p ps aK=>
  rintro xs aB ⟨a,u,r,rfl,aR,b⟩
  exact⟨a,u,_,rfl,aB _ List.mem_cons_self,aR,aK (fun y aQ=>aB y (List.mem_cons_of_mem _ aQ)) b⟩
noncomputable def gk(x:K):List (K×V)→Option V
 |[]=>none
 |(y,v)::r=>if y=x then some v else gk x r
theorem Kx{k:K}{ps:List (K×V)}:∀{xs:List (K×Addr×Value)},lT h J ps xs→g9 h J (gk k ps) ((atKey xs k).map (·.2)):=by
 induction ps with
 |nil=>intro xs q;rw[show xs=[]from q];exact .nil
 |cons p ps aK=>
  rintro xs ⟨a,u,r,rfl,aR,b⟩
  show g9 h J (if p.1=k then some p.2 else gk k ps) _
  by_cases af:p.1=k
  ·subst af
   rw[if_pos rfl,Ds]
   exact .one aR
  ·rw[if_neg af,Dt af]
   exact aK b
theorem B5{knd:PySem.HeapKind prog w K}{d:Addr}{av:List DictEntry}{n:Nat}{xs:List (K×Addr×Value)}{ps:List (K×V)}(hd:h.get? d=some (df av n))(he:av=xs.map (entryOfKey knd))(hi:∀x∈xs,knd.is h x.1 x.2.1)
 (aU:lT h J ps xs) (bk:(ps.map (·.1)).Nodup):h.DictOfH knd d xs:=⟨_,av.toArray,n,hd,⟨rfl,rfl,rfl⟩,rfl,he,hi,aU.keys▸bk⟩
variable{A:Around}{E:Value→Shared→Prop}{s:Shared}
theorem Ks{knd:PySem.HeapKind prog w K}{d a:Addr}{av:List DictEntry}{n:Nat}{ps:List (K×V)}{k:K}{u:Value}{v:V}{Q:Unit→Shared→Prop}(bR:knd.room A.in1)(nd:knd.is s.heap k a)(hd:s.heap.get? d=some (df av n))(g:iu knd s.heap J ps av)
 (bk:(ps.map (·.1)).Nodup) (hz:ps.length≤1000000) (r:aC s.heap J v u) (Qh:∀ax d_ fP,Heap.SameBut d s.heap ax→ax.get? d=some (df d_ fP)→∀k a,knd.is ax k a→knd.is s.heap k a)
 (q:∀ax d_ fP bt,Heap.SameBut d s.heap ax→ax.get? d=some (df d_ fP)→iu knd s.heap J (b0 k v ps) d_→Q () {s with heap:=ax,toks:=bt}):wpAny (model prog w) A (setItem (.ref d) (.ref a) u) Q E s:=by
 obtain⟨xs,ag,ah,aE⟩:=g.of
 have au:=congrArg List.length aE.keys
 rw[List.length_map,List.length_map] at au
 refine wpAny_setItem_heap bR nd (B5 hd ag ah aE bk) (fun ax kB aY=> ?_) (by rw[au,sizeLine_eq];exact Nat.le_trans hz (by decide))
 obtain⟨o,d_,ep,aT,af,zR,he,hi,aD⟩:=kB
 obtain rfl:=El af zR
 exact q ax d_.toList ep _ aY aT (he▸iu.back (fun x af=>Qh ax _ _ aY aT _ _ (hi x af)) (WH r bk aE))
end
theorem Vz{prog:Program}{w:World}{A:Around}{E:Value→Shared→Prop}{s:Shared}{l:Addr}{vs:List Value}{n:Nat}{k:Int}{t:Tok}{v:Value}{Q:Unit→Shared→Prop}(aT:s.heap.get? l=some (eR vs n))
 (h0:k<0) (ag: -(vs.length:Int)≤k) (FC: -(2^63)≤k)
 (iV:∀ax fP,Heap.SameBut l s.heap ax→ax.get? l=some (eR (vs.set (k+vs.length).toNat v) fP)→Q () {s with heap:=ax}):wpAny (model prog w) A (setItem (.ref l) (.int k t) v) Q E s:=by
 have hd:(eR vs n).data= .seq vs.toArray n:=rfl
 have c_:s.TypeIs (.ref l) "list":=⟨_,aT,rfl⟩
 unfold setItem
 try with_reducible refine wpAny_holding ?_
 first|refine wpAny_bind (wpAny_pure ?_)|skip
 refine wpAny_bind (wpAny_sequenceKey c_ (by decide) ?_)
 refine wpAny_bind (wpAny_callSpecial?_slot (name:=Str.ofString "__setitem__") c_ slot_list_setitem
  (wpAny_call_entry slot_list_setitem c_ entry_list_setitem ?_ (args_list_setitem _ _ _)))
 show wpAny _ _ (Builtin.List.listSubscript? (.int k t)>>=_) _ _ s
 refine wpAny_bind (wpAny_listSubscript_int (fitsIndex_neg h0 FC) ?_)
 have tQ:=seqIndex_neg h0 ag
 have bM:(k+vs.length).toNat<vs.length:=by omega
 generalize X4:(k+(vs.length:Int)).toNat=rD at*
 clear FC
 obtain⟨j,rfl⟩:∃j:Nat,k=Int.negSucc j:=by
  cases k with
  |ofNat n=>exact absurd h0 (Int.not_lt.mpr (Int.ofNat_nonneg n))
  |negSucc n=>exact⟨n,rfl⟩
 show wpAny _ _ ((Builtin.List.listItems (.ref l)>>=fun xs=>pure ((seqIndex? (Int.negSucc j) xs.size).bind fun i=>xs[i]?.map (i, ·)))>>=_) _ _ s
 refine wpAny_bind (wpAny_bind ?_)
 show wpAny _ _ (seqItems? (.ref l)>>=_) _ _ s
 refine wpAny_bind (wpAny_seqItems aT hd (wpAny_pure (wpAny_pure ?_)))
 have af:vs.toArray[rD]?=some vs[rD]:=by simp[bM]
 have QP:seqIndex? (Int.negSucc j) vs.toArray.size=some rD:=by rw[List.size_toArray];exact tQ
 rw[QP]
 simp only[Option.bind_some,af,Option.map_some]
 show wpAny _ _ (setSeqItemAt l rD v>>=_) _ _ s
 refine wpAny_bind (wpAny_setSeqItemAt aT hd ?_)
 have fA:(s.heap.update l (Obj.mapSeq (·.setIfInBounds rD v))).get? l=some (eR (vs.set rD v) n):=by
  rw[Heap.get?_update_self _ aT (by rfl)]
  simp[Obj.mapSeq,eR]
 first
  |exact wpAny_bind (wpAny_pure (wpAny_pure ⟨.none,rfl,wpAny_pure (iV _ _ (Heap.SameBut.update ..) fA)⟩))
  |exact wpAny_pure ⟨.none,rfl,wpAny_pure (iV _ _ (Heap.SameBut.update ..) fA)⟩
theorem Xk{h:Heap}{J:List Addr}{x:V}{w:Value}(r:aC h J x w){xs:List V}:∀{ws:List Value} (i:Nat),bL h J xs ws→bL h J (xs.set i x) (ws.set i w):=by
 induction xs with
 |nil=>intro ws i q;rw[show ws=[]from q];exact .kO
 |cons y xs aK=>
  rintro ws i ⟨u,t,rfl,a,b⟩
  cases i with
  |zero=>exact .ai r b
  |succ i=>exact .ai a (aK i b)
noncomputable def t7{α:Type}(f:V→Option α):List V→Option (List α)
 |[]=>some []
 |v::r=>(f v).bind fun x=>(t7 f r).map (x:: ·)
noncomputable def t8(xs:List V):Option (List Str):=t7 km xs
noncomputable def Aw(xs:List V):Option (List Int):=t7 jk xs
noncomputable def rE(xs:List V):Option (List (List Int)):=t7 (fun v=>(vC v).bind Aw) xs
section
variable{c:a9}{h:Heap}{J:List Addr}
theorem wT{α:Type}{f:V→Option α}{P:List α→List Value→Prop}(aD:P [] [])(aU:∀{v a w ks vs},f v=some a→aC h J v w→P ks vs→P (a::ks) (w::vs)){xs:List V}:∀{ks:List α} {vs:List Value},t7 f xs=some ks→bL h J xs vs→P ks vs:=by
 induction xs with
 |nil=>intro ks vs e r;rw[show vs=[]from r,←Option.some.inj e];exact aD
 |cons x xs aK=>
  rintro ks vs e ⟨w,t,rfl,a,b⟩
  exact bQ e fun y aQ e=>dq e fun AE e h=>h▸aU aQ a (aK e b)
theorem R4{prog:Program}{w:World}{xs:List V}{vs:List Value}{ks:List Str}(e:t8 xs=some ks)(r:bL h J xs vs):ItemsAre (PySem.strKind prog w) ks vs:=
 wT (P:=ItemsAre (PySem.strKind prog w)) .nil (fun{_ a mH ks vs} aQ cp t=>aC.ff (G:=fun w=>ItemsAre _ (a::ks) (w::vs)) (kn aQ▸cp) fun bt=> .cons (strKind_is prog w _ bt) t) e r
theorem R1{prog:Program}{w:World}{xs:List V}{vs:List Value}{ks:List Int}(e:Aw xs=some ks)(r:bL h J xs vs):ItemsAre (PySem.intKind prog w) ks vs:=
 wT (P:=ItemsAre (PySem.intKind prog w)) .nil (fun{_ a mH ks vs} aQ cp t=>aC.fM (G:=fun w=>ItemsAre _ (a::ks) (w::vs)) (k' aQ▸cp) fun bt=> .cons (beq_self_eq_true a) t) e r
theorem Gs{prog:Program}{w:World}{xs:List V}{a:Addr}{ks:List Str}(e:t8 xs=some ks)(r:aC h J (.tup xs) (.ref a)):IsTupleKey (PySem.strKind prog w) h ks a:=
 aC.tupK (G:=fun w=>w= .ref a→_) r (fun cp vs n aP rs m5=>⟨_,vs.toArray,n,Value.ref.inj m5▸aP,rfl,rfl,R4 e rs⟩) rfl
theorem R2{prog:Program}{w:World}{xs:List V}{a:Addr}{ks:List Int}(e:Aw xs=some ks)(r:aC h J (.tup xs) (.ref a)):IsTupleKey (PySem.intKind prog w) h ks a:=
 aC.tupK (G:=fun w=>w= .ref a→_) r (fun cp vs n aP rs m5=>⟨_,vs.toArray,n,Value.ref.inj m5▸aP,rfl,rfl,R1 e rs⟩) rfl
theorem Gq{prog:Program}{w:World}{xs:List V}{a:Addr}{ks:List (List Int)}(e:rE xs=some ks)(r:aC h J (.tup xs) (.ref a)):im prog w h ks a:=
 aC.tupK (G:=fun w=>w= .ref a→_) r (fun cp vs n aP rs m5=>⟨_,vs.toArray,n,Value.ref.inj m5▸aP,rfl,rfl,wT (P:=h8 prog w h) .nil (fun{_ a mH ks vs} aQ cp t=>bQ aQ fun ci aQ aB=>
  aC.tupK (G:=fun w=>aC h J (.tup ci) w→h8 _ _ _ (a::ks) (w::vs)) (vD aQ▸cp) (fun _ _ _ _ _ r=> .cons (R2 aB r) t) (vD aQ▸cp)) e rs⟩) rfl
theorem BG{d a:Addr}{o cF:Obj}{av:Array DictEntry}{ep n:Nat}{items:Array Value}(aT:h.get? d=some o)(hd:o.data= .dict av ep)(ek:h.get? a=some cF)(e7:cF.data= .seq items n):a≠d:=by
 rintro rfl
 rw[aT] at ek;cases ek
 exact nomatch hd.symm.trans e7
theorem Vm{ax:Heap}{d:Addr}{o:Obj}{av:Array DictEntry}{ep:Nat}(aY:Heap.SameBut d h ax)(aT:ax.get? d=some o)(hd:o.data= .dict av ep):∀k a,(sK c).is ax k a→(sK c).is h k a:=by
 rintro k a ⟨cF,items,n,ek,aU,e7,r⟩
 exact⟨cF,items,n,(aY.2 a (BG aT hd ek e7)).symm.trans ek,aU,e7,r⟩
theorem RE{prog:Program}{w:World}{ax:Heap}{d:Addr}{o:Obj}{av:Array DictEntry}{ep:Nat}(aY:Heap.SameBut d h ax)(aT:ax.get? d=some o)(hd:o.data= .dict av ep):∀k a,IsTupleKey (PySem.intKind prog w) ax k a→IsTupleKey (PySem.intKind prog w) h k a:=by
 rintro k a ⟨cF,items,n,ek,aU,e7,r⟩
 exact⟨cF,items,n,(aY.2 a (BG aT hd ek e7)).symm.trans ek,aU,e7,r⟩
theorem UX{ax:Heap}{d:Addr}{o:Obj}{av:Array DictEntry}{ep:Nat}(aY:Heap.SameBut d h ax)(aT:ax.get? d=some o)(hd:o.data= .dict av ep):∀k a,(qe c).is ax k a→(qe c).is h k a:=by
 rintro k a ⟨cF,items,n,ek,aU,e7,r⟩
 exact⟨cF,items,n,(aY.2 a (BG aT hd ek e7)).symm.trans ek,aU,e7,r.mono (RE aY aT hd)⟩
end
noncomputable def uM(l:Nat)(k:Int)(v:V)(H:ao):Option aM→Option ao
 |some (.list xs)=>if k<0∧ -(xs.length:Int)≤k∧ -(2^60)≤k then some (H.set l (.list (xs.set (k+xs.length).toNat v)))else none
 |some (.eI ps)=>if ps.length≤1000 then some (H.set l (.eI (b0 k v ps)))else none
 |_=>none
noncomputable def uN(l:Nat)(xs:List V)(v:V)(H:ao):Option aM→Option ao
 |some (.gd ps)=>if ps.length≤1000 then(t8 xs).map fun k=>H.set l (.gd (b0 k v ps))else none
 |some (.gI ps)=>if ps.length≤1000000 then(rE xs).map fun k=>H.set l (.gI (b0 k v ps))else none
 |_=>none
noncomputable def nL(o i v:V)(H:ao):Option ao:=(lb o).bind fun l=>match i with
 | .int k=>uM l k v H H[l]?
 | .str x=>(lW H[l]?).bind fun ps=>if ps.length≤1000 then some (H.set l (.aS (b0 x v ps)))else none
 | .tup xs=>uN l xs v H H[l]?
 |_=>none
section
variable{c:a9}{nm:a5}{k:Nat}
theorem aX.qx{J:List Addr}{H H':ao}{s:Shared}(I:aX c J H s){l:Nat}{a:Addr}{cF:Obj}{m':aM}{ax:Heap}{t:Nat}{Q:Unit→Shared→Prop}(e:H.set l m'=H')(aP:J[l]?=some a)(q:∀s',aX c J H' s'→Step [] J J s s'→Q () s')
 (aY:Heap.SameBut a s.heap ax) (aT:ax.get? a=some cF) (aZ:hB c s.heap J cF m'):Q () {s with heap:=ax,toks:=t}:=
 have T:=I.turn (t:=t) aP aY aT aZ
 q _ (e▸T.1) T.2
theorem Xa{J:List Addr}{H H':ao}{s:Shared}(I:aX c J H s){o i v:V}{a_ hy wv:Value}(e:nL o i v H=some H')(kQ:aC s.heap J o a_)(jy:aC s.heap J i hy)(lJ:aC s.heap J v wv){A:Around}(bR:A.units+66<cLine)
 {Q:Unit→Shared→Prop} {E:Value→Shared→Prop} (q:∀s',aX c J H' s'→Step [] J J s s'→Q () s'):wpAny (model c.prog c.w) A (setItem a_ hy wv) Q E s:=by
 refine bQ e fun l au e=>aC.gr (G:=fun a_=>wpAny _ A (setItem a_ hy wv) Q E s) (mZ au▸kQ) fun kk aP=> ?_
 cases i with
 |int k=>
  refine jy.fM (G:=fun hy=>wpAny _ A (setItem _ hy wv) Q E s) fun t=> ?_
  cases hm:H[l]? with
  |none=>exact cn ((congrArg (uM l k v H) hm).symm.trans e)
  |some m=>
   have e:=(congrArg (uM l k v H) hm).symm.trans e
   cases m with
   |list xs=>exact c3 e fun aB e=>I.hL aP hm fun vs n ah rs=>Vz ah aB.1 (rs.length▸aB.2.1) (Int.le_trans (by decide) aB.2.2) fun ax fP aY fA=>I.qx (t:=s.toks) (Option.some.inj e) aP q aY fA ⟨_,fP,rfl,rs.length▸Xk lJ _ rs⟩
   |eI ps=>
    refine c3 e fun hz e=>I.mh aP hm fun o ah aE=> ?_
    obtain⟨av,n,rfl,rs,bk⟩:=aE
    exact EQ (knd:=PySem.intKind c.prog c.w) (k:=k) (beq_self_eq_true k) ah (ke.toG rs) bk hz lJ fun ax d_ fP aY fA g=>I.qx (t:=s.toks+1) (Option.some.inj e) aP q aY fA ⟨_,_,rfl,g.Ky,pI bk⟩
   |_=>exact cn e
 |str x=>
  exact jy.ff (G:=fun hy=>wpAny _ A (setItem _ hy wv) Q E s) fun t=>bQ e fun ps au e=>c3 e fun hz e=>I.ql aP (pj au) fun av n ah rs bk=>
   EQ (knd:=PySem.strKind c.prog c.w) (strKind_is c.prog c.w x t) ah rs.toG bk hz lJ fun ax d_ fP aY fA g=>I.qx (t:=s.toks+1) (Option.some.inj e) aP q aY fA ⟨_,_,rfl,g.toS,pI bk⟩
 |tup xs=>
  obtain⟨vy,_,_,rfl,_⟩:=jy.xU
  cases hm:H[l]? with
  |none=>exact cn ((congrArg (uN l xs v H) hm).symm.trans e)
  |some m=>
   have e:=(congrArg (uN l xs v H) hm).symm.trans e
   cases m with
   |gd ps=>
    refine c3 e fun hz e=>dq e fun gq pT e=>I.mh aP hm fun o ah aE=> ?_
    obtain⟨av,n,rfl,rs,bk⟩:=aE
    exact Ks (knd:=sK c) (k:=gq) (tupleKind_room_in1 (knd:=PySem.strKind c.prog c.w) (by omega)) (Gs pT jy) ah rs bk (Nat.le_trans hz (by decide)) lJ (fun ax d_ fP aY fA=>Vm aY fA rfl) fun ax d_ fP bt aY fA g=>I.qx (t:=bt) e.symm aP q aY fA ⟨_,_,rfl,g,pI bk⟩
   |gI ps=>
    refine c3 e fun hz e=>dq e fun gq pT e=>I.mh aP hm fun o ah aE=> ?_
    obtain⟨av,n,rfl,rs,bk⟩:=aE
    exact Ks (knd:=qe c) (k:=gq) (by show A.in1.units+2<cLine;rw[Around.in1_units];omega) (Gq pT jy) ah rs bk hz lJ (fun ax d_ fP aY fA=>UX aY fA rfl) fun ax d_ fP bt aY fA g=>I.qx (t:=bt) e.symm aP q aY fA ⟨_,_,rfl,g,pI bk⟩
   |_=>exact cn e
 |_=>exact cn e
end
noncomputable def gA(Do vc ka:a0):b9:=cC ka fun v=>cC Do fun o=>cC vc fun i σ H3=>(nL o i v H3).map fun cW=>(.next,σ,cW)
section
variable{c:a9}{nm:a5}{k:Nat}
theorem iK{o i e:Expr}{pos j3:Pos}{Do vc ka:a0}(aR:bA c nm k e ka)(aT:bA c nm k o Do)(hi:bA c nm k i vc)
 (aY:∀env,swapsWithSole [.Subscript o i j3] e pos.line env=pure false:=by intro _;rfl) (hw:∀env,swappedStores [.Subscript o i j3] e env=pure none:=by intro _;rfl):
 eC c nm k (.Assign [.Subscript o i j3] e pos) (gA Do vc ka):=by
 intro fr aL J σ H s I a3 ba H' d A a Q E q
 refine dp d fun v H1 ag d=>dp d fun hM aG ah d=>dp d fun t5 H3 aE d=>dq d fun cW d e=>wpAny_Assign_stores (aR.at aL I.h I.f ag a fun cy s1 mE br dO bo bl=> ?_) (aY _) (hw _)
 show wpAny _ _ (assign (.Subscript o i j3) fr.env mE) _ _ _
 rw[arm_assign_Subscript]
 refine wpAny_bind (wpAny_holding (aT.at aL br dO ah a fun ct s2 qz bx eO bB bN=>wpAny_bind (wpAny_holding (hi.at aL bx eO aE a fun ec s3 Cd c0 jE cB fq=>wpAny_bind (wpAny_standAt (wpAny_bind (wpAny_holding ?_)))))))
 refine Xa c0 d (bN.step bx cB) fq ((bl.step br bB).step bx cB) a.room fun s4 h5 hP=>wpAny_release ?_
 have st:=((bo.trans bB).trans cB).trans hP
 exact f6.of (congrArg some e.symm) q ec s4 _ (I.step h5 st) st.weaken rfl
noncomputable def KS(v:V)(H:ao):Option (List V):=Dq v H
end
section
variable{prog:Program}{w:World}{A:Around}{E:Value→Shared→Prop}
theorem Nu{it t:Addr}{items:Array Value}(dB:t≠it)(n:Nat):∀(i:Nat) (s:Shared) (Q:List Value→Shared→Prop),s.heap.IsListIter it t i→s.heap.IsList t items→i+n≤items.size→
 (∀ax,ax.IsListIter it t (i+n)→Heap.SameBut it s.heap ax→Q ((items.toList.drop i).take n) {s with heap:=ax})→wpAny (model prog w) A (draw (.ref it) n) Q E s:=by
 induction n with
 |zero=>intro i s Q hit _ _ iV;exact wpAny_pure (iV s.heap hit (Heap.SameBut.refl ..))
 |succ n aK=>
  intro i s Q hit bg hle iV
  have gn:i<items.size:=Nat.lt_of_lt_of_le (Nat.lt_add_of_pos_right (Nat.succ_pos n)) hle
  have e:i+(n+1)=i+1+n:=(Nat.add_right_comm i n 1)
  show wpAny _ _ (pyNext (.ref it)>>=_) Q E s
  refine wpAny_bind (wpAny_pyNext_list_item hit bg (x:=items[i]) (Array.getElem?_eq_getElem gn) fun jT wx kE=> ?_)
  refine wpAny_bind (wpAny_holding (aK (i+1) _ _ wx (bg.extBut kE.extBut dB) (e▸hle) fun Ah QS Rm=>wpAny_pure ?_))
  have:=iV Ah (e▸QS) (kE.trans Rm)
  rw[List.drop_eq_getElem_cons (show i<items.toList.length from gn),List.take_succ_cons] at this
  exact this
theorem W1{t:Addr}{items:Array Value}{s:Shared}{Q:List Value→Shared→Prop}(bU:A.handled=none)(bg:s.heap.IsList t items)
 (iV:∀ax,Heap.ExtBut s.heap.objs.size s.heap ax→Q items.toList {s with heap:=ax}):wpAny (model prog w) A (unpackItems (.ref t) items.size none) Q E s:=by
 have gn:t≠s.heap.objs.size:=by obtain⟨o,aT,_⟩:=bg;exact Nat.ne_of_lt (Heap.lt_size aT)
 unfold unpackItems
 refine wpAny_bind ?_
 unfold notIterableAtAll
 refine wpAny_bind (wpAny_specialOf bg.typeIs slot_list_iter.lookup (wpAny_pure ?_))
 refine wpAny_bind (wpAny_holding (wpAny_pyIter_list bg ?_))
 refine wpAny_bind (wpAny_holding (Nu gn items.size 0 _ _ ⟨_,Heap.get?_push_size _ rfl,rfl,rfl⟩ (bg.push _) (Nat.le_of_eq (Nat.zero_add _)) fun jT wx kE=> ?_))
 rw[Nat.zero_add] at wx
 rw[show List.take items.size (List.drop 0 items.toList)=items.toList from List.take_of_length_le (Nat.le_refl _),if_neg (show¬items.toList.length<items.size from Nat.lt_irrefl _)]
 refine wpAny_bind (wpAny_holding (wpAny_pyNext_list_end bU wx ((bg.push _).extBut kE.extBut gn) (Array.getElem?_eq_none (Nat.le_refl _)) fun Ah ww=> ?_))
 exact wpAny_pure (iV Ah fun b o az e=>ww b o az (kE.extBut b o az (Heap.get?_push_of_some _ e)))
end
noncomputable def Ml(c:a9)(nm:a5)(fr:cX)(st:Value→Sem Unit)(i:Nat):Prop:=
 ∀(J:List Addr) (σ:aN) (H:ao) (s:Shared),b_ c nm fr J σ H s→∀v w,aC s.heap J v w→∀(A:Around) (Q:Unit→Shared→Prop) (E:Value→Shared→Prop),
  (∀s',b_ c nm fr J (upd σ i v) H s'→Step fr.own J J s s'→Q () s')→wpAny (model c.prog c.w) A (st w) Q E s
inductive jH(c:a9)(nm:a5)(fr:cX):List (Value→Sem Unit)→List Nat→Prop
 |nil:jH c nm fr [] []
 |cons {st:Value→Sem Unit} {i:Nat} {kV:List (Value→Sem Unit)} {is:List Nat}:Ml c nm fr st i→jH c nm fr kV is→jH c nm fr (st::kV) (i::is)
noncomputable def mF(σ:aN):List Nat→List V→aN
 |i::is,v::vs=>mF (upd σ i v) is vs
 |_,_=>σ
inductive ki(nm:a5):List Expr→List Nat→List Str→Prop
 |nil:ki nm [] [] []
 |cons {x:Str} {p:Pos} {i:Nat} {fN:NameKind} {av:List Expr} {is:List Nat} {xs:List Str}:nm[i]?=some (x,fN)→(fN= .local∨fN= .cell)→ki nm av is xs→ki nm (.Name x p::av) (i::is) (x::xs)
section
variable{c:a9}{nm:a5}{k:Nat}{fr:cX}
theorem jH.append{kV Kl:List (Value→Sem Unit)}{is Gk:List Nat}(h:jH c nm fr kV is)(ax:jH c nm fr Kl Gk):jH c nm fr (kV++Kl) (is++Gk):=by
 induction h with
 |nil=>exact ax
 |cons ag _ aK=>exact .cons ag aK
theorem jH.reverse{kV:List (Value→Sem Unit)}{is:List Nat}(h:jH c nm fr kV is):jH c nm fr kV.reverse is.reverse:=by
 induction h with
 |nil=>exact .nil
 |cons ag _ aK=>rw[List.reverse_cons,List.reverse_cons];exact aK.append (.cons ag .nil)
theorem Uj{J aw:List Addr}{σ:aN}{H:ao}{s s':Shared}(I:b_ c nm fr J σ H s)(st:Step fr.own J aw s s'){vs:List V}{ws:List Value}(r:bL s.heap J vs ws):bL s'.heap aw vs ws:=
 bL.mono (fun b o e f=>st.ey b o e (fun q=>I.h.iG q e f) fun q=>by
  obtain⟨_,_,cF,ek,e7⟩:=I.f.own b q
  rw[e] at ek;cases ek
  exact uv e7 f) st.lk _ r
theorem Kj{kV:List (Value→Sem Unit)}{is:List Nat}(h:jH c nm fr kV is):∀{J:List Addr} {σ:aN} {H:ao} {s:Shared},b_ c nm fr J σ H s→∀{vs:List V} {ws:List Value},bL s.heap J vs ws→vs.length=is.length→
 ∀{A:Around} {Q:Unit→Shared→Prop} {E:Value→Shared→Prop},(∀s',b_ c nm fr J (mF σ is vs) H s'→Step fr.own J J s s'→Q () s')→wpAny (model c.prog c.w) A (assignInOrder kV ws) Q E s:=by
 induction h with
 |nil=>
  intro J σ H s I vs ws r au A Q E q
  obtain rfl:=List.length_eq_zero_iff.mp au
  rw[show ws=[]from r]
  exact wpAny_assignInOrder_none (q s I .refl)
 | @cons st i kV is ag ah aK=>
  intro J σ H s I vs ws r au A Q E q
  cases vs with
  |nil=>exact nomatch au
  |cons v vs=>
   obtain⟨w,Yw,rfl,bl,bN⟩:=r
   exact wpAny_assignInOrder_more (ag J σ H s I v w bl A _ E fun s1 br bo=>aK br (Uj I bo bN) (Nat.succ.inj au) fun s2 bx bB=>q s2 bx (bo.trans bB))
theorem ki.stores(aL:dw nm fr)(dG:(nm.map (·.1)).Nodup){av:List Expr}{is:List Nat}{xs:List Str}(h:ki nm av is xs):jH c nm fr ((assignEach av fr.env).map (·.2)) is∧(assignEach av fr.env).findIdx? (·.1)=none∧(assignEach av fr.env).length=is.length:=by
 induction h with
 |nil=>exact⟨.nil,rfl,rfl⟩
 | @cons x p i fN av is xs ag ah aE aK=>
  refine⟨.cons (fun J σ H s I v w r A Q E q=>wpAny_assign_Name (sf aL dG ag ah I r q)) aK.1,?_,congrArg (· +1) aK.2.2⟩
  show List.findIdx? (·.1) ((false,assign (.Name x p) fr.env)::assignEach av fr.env)=none
  rw[List.findIdx?_cons,aK.2.1];rfl
theorem ki.binds(aL:dw nm fr)(dG:(nm.map (·.1)).Nodup){av:List Expr}{is:List Nat}{xs:List Str}(h:ki nm av is xs):jH c nm fr (xs.map fun n=>bindName fr.env n) is:=by
 induction h with
 |nil=>exact .nil
 | @cons x p i fN av is xs ag ah aE aK=>exact .cons (fun J σ H s I v w r A Q E q=>wpAny_bindName (sf aL dG ag ah I r q)) aK
theorem ki.length{av:List Expr}{is:List Nat}{xs:List Str}(h:ki nm av is xs):xs.length=is.length∧av.length=is.length:=by
 induction h with
 |nil=>exact⟨rfl,rfl⟩
 |cons _ _ _ aK=>simp[aK.1,aK.2]
theorem KN{J:List Addr}{σ:aN}{H:ao}{s:Shared}(I:b_ c nm fr J σ H s){v:V}{w:Value}(r:aC s.heap J v w){xs:List V}(e:KS v H=some xs){A:Around}(bU:A.handled=none){n:Nat}(aD:n=xs.length)
 {Q:List Value→Shared→Prop} {E:Value→Shared→Prop} (q:∀s' ws,b_ c nm fr J σ H s'→Step fr.own J J s s'→bL s'.heap J xs ws→Q ws s'):wpAny (model c.prog c.w) A (unpackItems w n none) Q E s:=by
 subst aD
 have fin:∀(ws:List Value) (ax:Heap),Heap.ExtBut s.heap.objs.size s.heap ax→s.heap.objs.size≤ax.objs.size→bL s.heap J xs ws→Q ws {s with heap:=ax}:=by
  intro ws ax he hz rs
  have aB:∀b o,s.heap.get? b=some o→ax.get? b=some o:=fun b o e=>he b o (Nat.ne_of_lt (Heap.lt_size e)) e
  have st:Step [] J J s {s with heap:=ax}:= .grow (s':={s with heap:=ax}) aB hz rfl rfl
  exact q _ ws (I.step (I.h.grow (s':={s with heap:=ax}) aB hz) st) st.weaken (rs.step I.h st)
 cases v with
 |tup ci=>
  obtain rfl:=Option.some.inj e
  refine r.tupK (G:=fun w=>wpAny _ A (unpackItems w _ none) Q E s) fun a vs n aP rs=> ?_
  rw[show ci.length=vs.toArray.size from rs.length.trans List.size_toArray.symm]
  exact i' (wpAny_unpackItems_tuple bU ⟨_,aP,rfl,n,rfl⟩ fun ax he hz=>fin vs ax he hz rs)
 |loc l=>
  refine r.gr (G:=fun w=>wpAny _ A (unpackItems w _ none) Q E s) fun a aP=>I.h.hL aP (iv e) fun vs n ah rs=> ?_
  rw[show xs.length=vs.toArray.size from rs.length.trans List.size_toArray.symm]
  exact i' (W1 bU ⟨_,ah,rfl,n,rfl⟩ fun ax he hz=>fin vs ax he hz rs)
 |_=>exact cn e
noncomputable def gM(is:List Nat):V→aN→ao→Option aN:=fun v σ H=>(KS v H).bind fun xs=>if xs.length=is.length then some (mF σ is xs)else none
theorem jZ{av:List Expr}{is:List Nat}{xs:List Str}{fc:Nat}{p:Pos}(dG:(nm.map (·.1)).Nodup)(h:ki nm av is xs):n7 c nm (k+1) (.Tuple av fc p) (gM is):=by
 intro fr aL J σ H s I v w ba r e A a Q E q
 refine bQ e fun ci aQ e=>c3 e fun au e=> ?_
 have S:=h.stores (c:=c) aL dG
 show wpAny _ _ (do standAt p;unpack w (assignEach av fr.env)) _ _ _
 refine wpAny_bind (wpAny_standAt ?_)
 unfold unpack
 rw[S.2.1,S.2.2]
 exact wpAny_bind (wpAny_holding (KN I r aQ a.hd au.symm fun s1 ws br bo bl=>Kj S.1 br bl au fun s2 bx bB=>q s2 (Option.some.inj e▸bx) (bo.trans bB)))
noncomputable def pv(is:List Nat)(D:a0):b9:=cC D fun v σ H1=>(gM is v σ H1).map fun ba=>(.next,ba,H1)
theorem xG{e:Expr}{D:a0}{av:List Expr}{is:List Nat}{xs:List Str}{fc:Nat}{p pos:Pos}(dG:(nm.map (·.1)).Nodup)(h:bA c nm (k+1) e D)(aD:ki nm av is xs)
 (aY:∀env,swapsWithSole [.Tuple av fc p] e pos.line env=pure false:=by intro _;rfl) (hw:∀env,swappedStores [.Tuple av fc p] e env=pure none:=by intro _;rfl):eC c nm (k+1) (.Assign [.Tuple av fc p] e pos) (pv is D):=by
 intro fr aL J σ H s I a3 ba H' d A a Q E q
 exact dp d fun v H1 ag d=>dq d fun b3 d e=>Assign_Tuple (h.at aL I.h I.f ag a fun cy s1 c1 br dO bo bl=>jZ dG aD fr aL cy σ H1 s1 (I.step br bo) v c1 b3 bl d A a _ E fun s2 bx bB=>f6.of (congrArg some e.symm) q cy s2 _ bx (bo.weaken.trans bB) rfl) (aY _) (hw _)
noncomputable def B3(be vs:List Expr)(names:List Str):Bool:=
 (be.length==2||be.length==3)&&vs.length==be.length&& !(vs.any fun| .Starred .. =>true|_=>false)&&(be.all fun| .Name _ pos=>pos.line==(be.head?.map (·.pos.line)).getD 0|_=>false)&&
  names.eraseDups.length==names.length&& !(vs.all (foldedForSure 8))&& !(vs.all (constantsAlone 8))
inductive mQ(nm:a5):List Expr→List Nat→List Str→Prop
 |nil:mQ nm [] [] []
 |cons {x:Str} {p:Pos} {i:Nat} {av:List Expr} {is:List Nat} {xs:List Str}:nm[i]?=some (x, .local)→mQ nm av is xs→mQ nm (.Name x p::av) (i::is) (x::xs)
theorem mQ.names{av:List Expr}{is:List Nat}{xs:List Str}(h:mQ nm av is xs):ki nm av is xs:=by
 induction h with
 |nil=>exact .nil
 |cons ag _ aK=>exact .cons ag (.inl rfl) aK
theorem mQ.filter(aL:dw nm fr)(dG:(nm.map (·.1)).Nodup)(line:Nat){av:List Expr}{is:List Nat}{xs:List Str}(h:mQ nm av is xs)(au:(av.all fun| .Name _ pos=>pos.line==line|_=>false)=true):
 (av.filterMap fun
  | .Name id pos=>if fr.env.kindOf id==some .local&&pos.line==line then some id else none
  |_=>none)=xs:=by
 induction h with
 |nil=>rfl
 | @cons x p i av is xs ag ah aK=>
  have au:=Bool.and_eq_true_iff.mp au
  have aB:(fr.env.kindOf x==some .local&&p.line==line)=true:=by rw[aL.lc x (lookup_at dG ag),show(p.line==line)=true from au.1];rfl
  rw[List.filterMap_cons]
  dsimp only
  rw[if_pos aB]
  exact congrArg _ (aK au.2)
theorem Wh(aL:dw nm fr)(dG:(nm.map (·.1)).Nodup){be vs:List Expr}{is:List Nat}{names:List Str}{k1 k2:Nat}{dT dC:Pos}(h:mQ nm be is names)(aU:B3 be vs names=true):
 swappedStores [.Tuple be k1 dT] (.Tuple vs k2 dC) fr.env=pure (some names):=by
 unfold B3 at aU
 have⟨aU,pL⟩:=Bool.and_eq_true_iff.mp aU
 have⟨aU,iU⟩:=Bool.and_eq_true_iff.mp aU
 have⟨aU,cj⟩:=Bool.and_eq_true_iff.mp aU
 have⟨aU,a7⟩:=Bool.and_eq_true_iff.mp aU
 have⟨aU,aE⟩:=Bool.and_eq_true_iff.mp aU
 have⟨ag,ah⟩:=Bool.and_eq_true_iff.mp aU
 have hf:=h.filter aL dG _ a7
 have hlen:=h.names.length
 have uk:∀{b:Bool},(!b)=true→¬b=true:=fun{b} h q=>by rw[q] at h;exact nomatch h
 refine(if_neg (uk ?_)).trans ?_
 ·show(!(!(be.length==2||be.length==3)|| !(vs.length==be.length)|| !(fr.env.blockKind== .function)))=true
  rw[ag,ah,show fr.env.blockKind= .function by unfold Env.blockKind;rw[aL.kind];rfl];rfl
 refine(if_neg (uk aE)).trans ?_
 dsimp only
 generalize b6:List.filterMap _ be=c2
 obtain rfl:c2=names:=b6.symm.trans hf
 refine(if_neg (uk ?_)).trans ((if_neg (uk iU)).trans ?_)
 rotate_left
 ·exact if_neg (uk pL)
 show(!(!(c2.length==be.length)|| !(c2.eraseDups.length==c2.length)))=true
 rw[cj,show(c2.length==be.length)=true from beq_iff_eq.mpr (hlen.1.trans hlen.2.symm)];rfl
noncomputable def kt(is:List Nat)(D:a0):b9:=cC D fun v σ H1=>(vC v).bind fun xs=>if xs.length=is.length then some (.next,mF σ is.reverse xs.reverse,H1)else none
theorem Xj{h:Heap}{J:List Addr}{xs:List V}:∀{ws:List Value},bL h J xs ws→bL h J xs.reverse ws.reverse:=by
 induction xs with
 |nil=>intro ws r;rw[show ws=[]from r];exact .kO
 |cons x xs aK=>
  rintro _ ⟨w,t,rfl,a,b⟩
  rw[List.reverse_cons,List.reverse_cons]
  exact(aK b).append (.one a)
theorem qq{be vs:List Expr}{is:List Nat}{names:List Str}{D:a0}{k1 k2:Nat}{dT dC pos:Pos}(dG:(nm.map (·.1)).Nodup)(h:bA c nm (k+1) (.Tuple vs k2 dC) D)(aD:mQ nm be is names)(aU:B3 be vs names=true:=by rfl)
 (aY:∀env,swapsWithSole [.Tuple be k1 dT] (.Tuple vs k2 dC) pos.line env=pure false:=by intro _;rfl):eC c nm (k+1) (.Assign [.Tuple be k1 dT] (.Tuple vs k2 dC) pos) (kt is D):=by
 intro fr aL J σ H s I a3 ba H' d A a Q E q
 refine dp d fun v H1 ag d=>bQ d fun xs aR d=>c3 d fun au e=> ?_
 have hlen:=aD.names.length
 refine Assign_Tuple_swapped (names:=names) (h.at aL I.h I.f ag a fun cy s1 c1 br dO bo bl=> ?_) (aY _) (Wh aL dG aD aU)
 refine KN (I.step br bo) (vD aR▸bl) (xs:=xs) rfl a.hd (hlen.1.trans au.symm) fun s2 ws bx bB bN=> ?_
 have F6:=(aD.names.binds (c:=c) aL dG).reverse
 rw[←List.map_reverse] at F6
 exact Kj F6 bx (Xj bN) (by rw[List.length_reverse,List.length_reverse,au]) fun s3 c0 cB=>f6.of e q cy s3 _ c0 ((bo.weaken.trans bB).trans cB) rfl
end
noncomputable def uc(xs:List V):Option aM→Option (Option V)
 |some (.gd ps)=>(t8 xs).map fun k=>gk k ps
 |some (.gI ps)=>(rE xs).map fun k=>gk k ps
 |_=>none
noncomputable def nJ(o i:V)(H:ao):Option (Option V):=(lb o).bind fun l=>(vC i).bind fun xs=>uc xs H[l]?
noncomputable def tg(D R:a0):a0:=gQ D R fun x y aG=>((nJ x y aG).bind id).map (·,aG)
noncomputable def td(neg:Bool)(D R:a0):cK:=gQ D R fun x y aG=>(nJ y x aG).map fun r=>(r.isSome !=neg,aG)
inductive LL(c:a9)(s:Shared)(J:List Addr)(r:Option V)(d a:Addr):Prop
 |mk (K:Type) (dec:DecidableEq K) (knd: @PySem.HeapKind c.prog c.w K dec) (gq:K) (xs:List (K×Addr×Value)) (aZ:∀A:Around,A.units+66<cLine→knd.room A.in1) (aB:knd.is s.heap gq a) (hm:s.heap.DictOfH knd d xs) (aR:g9 s.heap J r ((atKey xs gq).map (·.2)))
section
variable{c:a9}{nm:a5}{k:Nat}
theorem U'{A:Around}(bR:A.units+66<cLine):A.in1.units+2<cLine:=by rw[Around.in1_units];omega
theorem KV{J:List Addr}{H:ao}{s:Shared}(I:aX c J H s){o i:V}{a_ hy:Value}{r:Option V}{G:Value→Value→Prop}(e:nJ o i H=some r)(kQ:aC s.heap J o a_)(jy:aC s.heap J i hy)
 (k:∀d a,d∈J→LL c s J r d a→G (.ref d) (.ref a)):G a_ hy:=by
 refine bQ e fun l au e=>bQ e fun xs af e=>aC.gr (G:=fun a_=>G a_ hy) (mZ au▸kQ) fun kk aP=> ?_
 have jy:aC s.heap J (.tup xs) hy:=vD af▸jy
 obtain⟨vy,_,_,rfl,_⟩:=jy.xU
 refine k kk vy (List.mem_of_getElem? aP) ?_
 cases hm:H[l]? with
 |none=>exact cn ((congrArg (uc xs) hm).symm.trans e)
 |some m=>
  have e:=(congrArg (uc xs) hm).symm.trans e
  refine I.mh aP hm fun o ah aE=> ?_
  cases m with
  |gd ps=>
   obtain⟨av,n,rfl,rs,bk⟩:=aE
   obtain⟨xs,ak,bW,fJ⟩:=rs.of
   exact dq e fun gq pT e=>⟨_,_,sK c,gq,xs,fun A bR=>tupleKind_room_in1 (knd:=PySem.strKind c.prog c.w) (by omega),Gs pT jy,B5 ah ak bW fJ bk,e▸Kx fJ⟩
  |gI ps=>
   obtain⟨av,n,rfl,rs,bk⟩:=aE
   obtain⟨xs,ak,bW,fJ⟩:=rs.of
   exact dq e fun gq pT e=>⟨_,_,qe c,gq,xs,fun A bR=>U' bR,Gq pT jy,B5 ah ak bW fJ bk,e▸Kx fJ⟩
  |_=>exact cn e
theorem J8{o i:Expr}{D R:a0}{pos:Pos}(aT:bA c nm k o D)(hi:bA c nm k i R)(aY:∀a j,subscripted i false a j=operate [a,j] (getItem a j):=by intro _ _;rfl):bA c nm k (.Subscript o i pos) (tg D R):=by
 intro fr aL J σ H s I F v H' d A a Q E q
 refine DO (f:=fun x y aG=>(nJ x y aG).bind id) d fun x H1 y ag ah d=>bQ d fun r bR e=>Subscript_ (two aT hi aL I F ag ah a fun ct s2 c1 dE bx eO bB bl bN=> ?_)
 refine KV (G:=fun c1 dE=>wpAny _ A (subscriptTail o i c1 dE) Q E s2) bx bR bl bN fun d vy hd ⟨K,dec,knd,gq,xs,aZ,aB,hm,aR⟩=>tail_any hm.typeIs slot_dict_getitem.lookup ?_ (aY _ _)
 have aR:g9 s2.heap ct (some v) _:=(show r=some v from e)▸aR
 refine g9.BY (G:=fun p=>(atKey xs gq).map (·.2)=p→wpAny _ A (getItem _ _) Q E s2) aR (fun w cR hw=>dq hw fun p aH hw=> ?_) rfl
 exact wpAny_getItem_heap (aZ A a.room) aB hm aH (q ct _ _ bx.toks (bB.trans .toks) (hw▸cR))
theorem J1(ok:c.Ok){neg:Bool}{l r:Expr}{D R:a0}{pos:Pos}(au:bA c nm k l D)(aZ:bA c nm k r R)(hm:behindInMarks (if neg then .NotIn else .In) r=false:=by with_unfolding_all rfl):
 h9 c nm k (.Compare l [if neg then .NotIn else .In] [r] pos) (td neg D R):=by
 intro fr aL J σ H s I F v H' d A a Q E q
 refine tc (f:=fun x y aG=>nJ y x aG) d fun x H1 y b ag ah az e=>wpAny_isTrue_Compare1 (two au aZ aL I F ag ah a fun ct s2 c1 dE bx eO bB bl bN=> ?_) hm
 refine KV (G:=fun dE c1=>wpAny _ A (compareOp _ c1 dE) _ E s2) bx az bN bl fun d vy hd ⟨K,dec,knd,gq,xs,F1,aB,wD,aR⟩=> ?_
 have tX:(atKey xs gq).isSome=b.isSome:=Option.isSome_map.symm.trans aR.isSome.symm
 have aD:=qb ok bx hd
 cases neg with
 |false=>exact wpAny_in_heap (F1 A a.room) aB aD wD (wpAny_truthy_bool (by rw[tX,←Bool.bne_false (b:=b.isSome),←e];exact q ct _ bx.toks (bB.trans .toks)))
 |true=>exact wpAny_notIn_heap (F1 A a.room) aB aD wD (wpAny_truthy_bool (by rw[tX,←Bool.bne_true (b:=b.isSome),←e];exact q ct _ bx.toks (bB.trans .toks)))
end
noncomputable def kl:List V→Option V|[v]=>some v|_=>none
noncomputable def lV:List V→Option (V×V)|[v,u]=>some (v,u)|_=>none
noncomputable def iC:bz:=fun args H=>(kl args).bind fun v=>(lb v).bind fun l=>(h_ H[l]?).bind fun xs=>if xs.length<2^60 then some (.int xs.length,H)else none
noncomputable def qy(T:String)(a b c d:Bool):Option Bool:=if T="int"then some a else if T="bool"then some b else if T="str"then some c else if T="tuple"then some d else none
noncomputable def RQ(v:V)(T:String):Option Bool:=match v with
 | .int _=>qy T true false false false
 | .str _=>qy T false false true false
 | .bool _=>qy T true true false false
 | .none=>qy T false false false false
 | .tup _=>qy T false false false true
 |_=>none
noncomputable def Dr:V→Option String| .st (.type T)=>some T|_=>none
noncomputable def hH:bz:=fun args H=>(lV args).bind fun p=>(Dr p.2).bind fun T=>(RQ p.1 T).map fun b=>(.bool b,H)
noncomputable def WQ(v:V)(H:ao):Option (List V):=match v with
 | .loc l=>(h_ H[l]?).bind fun xs=>if xs.length≤1000000 then some xs else none
 | .tup xs=>some xs
 |_=>none
noncomputable def hI:bz:=fun args H=>(kl args).bind fun v=>(WQ v H).map fun xs=>(.tup xs,H)
noncomputable def zb:bz:=fun args H=>(kl args).bind fun v=>(jk v).map fun i=>(.int i,H)
noncomputable def oo:bz:=fun args H=>(kl args).bind fun v=>(km v).bind fun x=>if x.length=1 then some (.int (x.cps.getD 0 0:Nat),H)else none
noncomputable def vY:bz:=fun args H=>(kl args).bind fun v=>(jk v).bind fun i=>if 0≤i∧i≤1114111 then some (.str ⟨#[i.toNat]⟩,H)else none
noncomputable def tv:bz:=fun args H=>(lV args).bind fun p=>(jk p.1).bind fun a=>(jk p.2).map fun b=>(.int (if b<a then b else a),H)
section
variable{h:Heap}{J:List Addr}{args:List V}{vals:List Value}{G:List Value→Prop}
theorem bL.WU{v u:V}(r:bL h J [v,u] vals)(k:∀w x,aC h J v w→aC h J u x→G [w,x]):G vals:=by
 obtain⟨w,da,rfl,a,b⟩:=r
 exact b.Br (G:=fun da=>G (w::da)) fun x b=>k w x a b
theorem Dl{v:V}(e:kl args=some v):args=[v]:=by
 cases args with
 |nil=>exact cn e
 |cons a r=>
  cases r with
  |nil=>exact congrArg (fun x=>[x]) (Option.some.inj e)
  |cons _ _=>exact cn e
theorem Mz{p:V×V}(e:lV args=some p):args=[p.1,p.2]:=by
 cases args with
 |nil=>exact cn e
 |cons a r=>
  cases r with
  |nil=>exact cn e
  |cons b r=>
   cases r with
   |nil=>exact congrArg (fun x=>[x.1,x.2]) (Option.some.inj e)
   |cons _ _=>exact cn e
theorem mY{v:V}(e:kl args=some v)(r:bL h J args vals)(k:∀w,aC h J v w→G [w]):G vals:=bL.Br (Dl e▸r) k
theorem n_{p:V×V}(e:lV args=some p)(r:bL h J args vals)(k:∀w x,aC h J p.1 w→aC h J p.2 x→G [w,x]):G vals:=bL.WU (Mz e▸r) k
end
theorem MC{v:V}{T:String}(e:Dr v=some T):v= .st (.type T):=by
 cases v with
 |st w=>cases w<;>first|exact cn e|exact congrArg (fun T=>V.st (.type T)) (Option.some.inj e)
 |_=>exact cn e
theorem uS{T:String}{a b c d r:Bool}{G:String→Prop}(e:qy T a b c d=some r)(k1:r=a→G "int")(k2:r=b→G "bool")(k3:r=c→G "str")(Av:r=d→G "tuple"):G T:=by
 unfold qy at e
 by_cases h:T="int"
 ·rw[if_pos h] at e;exact h▸k1 (Option.some.inj e).symm
 rw[if_neg h] at e
 by_cases h:T="bool"
 ·rw[if_pos h] at e;exact h▸k2 (Option.some.inj e).symm
 rw[if_neg h] at e
 by_cases h:T="str"
 ·rw[if_pos h] at e;exact h▸k3 (Option.some.inj e).symm
 rw[if_neg h] at e
 exact c3 e fun h e=>h▸Av (Option.some.inj e).symm
section
variable{c:a9}{k:Nat}
theorem kT:fS c k (.builtin "len") iC:=by
 intro J H s args vals I r v H' d A a Q E q
 refine bQ d fun x af d=>bQ d fun l aR d=>bQ d fun xs au d=>c3 d fun hz e=>mY (G:=fun vals=>wpAny _ A (call _ vals []) Q E s) af r fun w cR=>aC.gr (G:=fun w=>wpAny _ A (call _ [w] []) Q E s) (mZ aR▸cR) fun dg aP=>I.hL aP (iv au) fun vs n ah rs=> ?_
 have bW:vs.toArray.size=xs.length:=List.size_toArray.trans rs.length.symm
 refine call_len_list (items:=vs.toArray) ⟨_,ah,rfl,n,rfl⟩ (by rw[bW];exact Int.lt_trans (Int.ofNat_lt.mpr hz) (by decide)) ?_
 rw[bW]
 exact KE.of e q J _ _ I.toks .toks .mkInt
theorem VL:fS c k (.type "int") zb:=
 fun J H s args vals I r v H' d A a Q E q=>bQ d fun x af d=>dq d fun i hi e=>mY (G:=fun vals=>wpAny _ A (call _ vals []) Q E s) af r fun w cR=>aC.fM (G:=fun w=>wpAny _ A (call _ [w] []) Q E s) (k' hi▸cR) fun t=>call_int_int (KE.of (congrArg some e.symm) q J s _ I .refl .mkInt)
theorem J4:fS c k (.builtin "ord") oo:=
 fun J H s args vals I r v H' d A a Q E q=>bQ d fun x af d=>bQ d fun i hi d=>c3 d fun hz e=>mY (G:=fun vals=>wpAny _ A (call _ vals []) Q E s) af r fun w cR=>aC.ff (G:=fun w=>wpAny _ A (call _ [w] []) Q E s) (kn hi▸cR) fun t=>ord_of_one hz (KE.of e q J _ _ I.toks .toks .mkInt)
theorem VD:fS c k (.builtin "chr") vY:=
 fun J H s args vals I r v H' d A a Q E q=>bQ d fun x af d=>bQ d fun i hi d=>c3 d fun hz e=>mY (G:=fun vals=>wpAny _ A (call _ vals []) Q E s) af r fun w cR=>aC.fM (G:=fun w=>wpAny _ A (call _ [w] []) Q E s) (k' hi▸cR) fun t=>chr_of_range hz.1 hz.2 (KE.of e q J _ _ I.toks .toks .mkStr)
theorem VP:fS c (k+1) (.builtin "min") tv:=by
 intro J H s args vals I r v H' d A a Q E q
 refine bQ d fun p af d=>bQ d fun i hi d=>dq d fun j bM e=>n_ (G:=fun vals=>wpAny _ A (call _ vals []) Q E s) af r fun w x bl bN=>aC.fM (G:=fun w=>wpAny _ A (call _ [w,x] []) Q E s) (k' hi▸bl) fun t=>aC.fM (G:=fun w=>wpAny _ A (call _ [_,w] []) Q E s) (k' bM▸bN) fun u=> ?_
 refine i' (min_two_ints a.hd fun ax bt aB hz=>KE.of (congrArg some e.symm) q J _ _ (I.grow (s':={s with heap:=ax,toks:=bt}) aB hz) (.grow aB hz rfl rfl) ?_)
 split<;>exact .mkInt
theorem xF:fS c k (.type "tuple") hI:=by
 intro J H s args vals I r v H' d A a Q E q
 refine bQ d fun x af d=>dq d fun xs au e=>mY (G:=fun vals=>wpAny _ A (call _ vals []) Q E s) af r fun w cR=> ?_
 have q:=KE.of (congrArg some e.symm) q
 clear e
 cases x with
 |loc l=>
  refine bQ au fun ci au e=>c3 e fun hz e=>cR.gr (G:=fun w=>wpAny _ A (call _ [w] []) Q E s) fun dg aP=>I.hL aP (iv au) fun vs n ah rs=> ?_
  obtain rfl:=Option.some.inj e
  refine i' (call_tuple_list (items:=vs.toArray) ⟨_,ah,rfl,n,rfl⟩ (fun ax aB gp=> ?_) (by rw[List.size_toArray,sizeLine_eq,←rs.length];exact Nat.le_trans hz (by decide)))
  have nc:∀b o,s.heap.get? b=some o→(ax.push {cls:= .type "tuple",data:= .seq vs.toArray}).get? b=some o:=fun b o e=>Heap.get?_push_of_some _ (aB b o e)
  have st:Step [] J J s {s with heap:=ax.push {cls:= .type "tuple",data:= .seq vs.toArray}}:= .grow (s':={s with heap:=ax.push {cls:= .type "tuple",data:= .seq vs.toArray}}) nc gp rfl rfl
  exact q J _ _ (I.grow (s':={s with heap:=ax.push {cls:= .type "tuple",data:= .seq vs.toArray}}) nc gp) st ⟨_,vs,0,rfl,Heap.get?_push_size _ rfl,rs.step I st⟩
 |tup ci=>
  obtain rfl:=Option.some.inj au
  exact cR.tupK (G:=fun w=>aC s.heap J (.tup ci) w→wpAny _ A (call _ [w] []) Q E s) (fun dg vs n aP rs cR=>call_tuple_same (items:=vs.toArray) ⟨_,aP,rfl,n,rfl⟩ (q J s _ I .refl cR)) cR
 |_=>exact cn au
theorem iJ:fS c k (.builtin "isinstance") hH:=by
 intro J H s args vals I r v H' d A a Q E q
 refine bQ d fun p af d=>bQ d fun T c_ d=>dq d fun b az e=>n_ (G:=fun vals=>wpAny _ A (call _ vals []) Q E s) af r fun w y bl bN=>aC.stK (G:=fun y=>wpAny _ A (call _ [w,y] []) Q E s) (MC c_▸bN) ?_
 have hr:Q (.bool b) s:=KE.of (congrArg some e.symm) q J s _ I .refl .oF
 have bY:Q (.bool b) {s with toks:=s.toks+1}:=KE.of (congrArg some e.symm) q J _ _ I.toks .toks .oF
 clear q e
 revert bl az
 generalize p.1=x
 intro az bl
 cases x with
 |int i=>exact bl.fM (G:=fun w=>wpAny _ A (call _ [w,_] []) Q E s) fun t=>uS (G:=fun T=>wpAny _ A (call _ [_, .type T] []) Q E s) az (fun e=>IsiPair.int_int (e▸hr)) (fun e=>IsiPair.int_bool (e▸bY)) (fun e=>IsiPair.int_str (e▸bY)) fun e=>IsiPair.int_tuple (e▸bY)
 |str x=>exact bl.ff (G:=fun w=>wpAny _ A (call _ [w,_] []) Q E s) fun t=>uS (G:=fun T=>wpAny _ A (call _ [_, .type T] []) Q E s) az (fun e=>IsiPair.str_int (e▸bY)) (fun e=>IsiPair.str_bool (e▸bY)) (fun e=>IsiPair.str_str (e▸hr)) fun e=>IsiPair.str_tuple (e▸bY)
 |bool x=>exact bl.lZ (G:=fun w=>wpAny _ A (call _ [w,_] []) Q E s) (uS (G:=fun T=>wpAny _ A (call _ [_, .type T] []) Q E s) az (fun e=>IsiPair.bool_int (e▸hr)) (fun e=>IsiPair.bool_bool (e▸hr)) (fun e=>IsiPair.bool_str (e▸bY)) fun e=>IsiPair.bool_tuple (e▸bY))
 |none=>exact bl.lE (G:=fun w=>wpAny _ A (call _ [w,_] []) Q E s) (uS (G:=fun T=>wpAny _ A (call _ [_, .type T] []) Q E s) az (fun e=>IsiPair.NoneType_int (e▸bY)) (fun e=>IsiPair.NoneType_bool (e▸bY)) (fun e=>IsiPair.NoneType_str (e▸bY)) fun e=>IsiPair.NoneType_tuple (e▸bY))
 |tup xs=>exact bl.tupK (G:=fun w=>wpAny _ A (call _ [w,_] []) Q E s) fun dg vs n aP rs=>uS (G:=fun T=>wpAny _ A (call _ [_, .type T] []) Q E s) az (fun e=>IsiPair.tuple_int aP rfl (e▸bY)) (fun e=>IsiPair.tuple_bool aP rfl (e▸bY)) (fun e=>IsiPair.tuple_str aP rfl (e▸bY)) fun e=>IsiPair.tuple_tuple aP rfl (e▸hr)
 |_=>exact cn az
end
noncomputable def ik(op:Operator)(x y:V)(H:ao):Option (V×ao):=match x with
 | .int a=>(jk y).bind fun b=>(wO op a b).map fun r=>(.int r,H)
 | .loc l=>(h_ H[l]?).bind fun xs=>match y with
  | .loc m=>(h_ H[m]?).bind fun ci=>if op= .Add∧xs.length+ci.length≤1000000 then some (.loc H.length,H++[.list (xs++ci)])else none
  | .int b=>(kl xs).bind fun x=>if op= .Mult∧0≤b∧b≤1000000 then some (.loc H.length,H++[.list (List.replicate b.toNat x)])else none
  |_=>none
 |_=>none
noncomputable def bI(op:Operator)(D R:a0):a0:=gQ D R fun x y aG=>ik op x y aG
theorem K2{h:Heap}{J:List Addr}{x:V}{w:Value}(r:aC h J x w):∀n,bL h J (List.replicate n x) (List.replicate n w)
 |0=> .kO
 |n+1=> .ai r (K2 r n)
section
variable{c:a9}{nm:a5}{k:Nat}
section
variable{J:List Addr}{H:ao}{s:Shared}{r:V×ao}{A:Around}{Q E:Value→Shared→Prop}
theorem SM{al jI:Addr}{vs us:List Value}{n c':Nat}{xs ci:List V}(I:aX c J H s)(bW:s.heap.get? al=some (eR vs n))(ll:s.heap.get? jI=some (eR us c'))(rs:bL s.heap J xs vs)(qg:bL s.heap J ci us)(hz:xs.length+ci.length≤1000000)
 (e:some (.loc H.length,H++[.list (xs++ci)])=some r) (q:∀aw s' w,aX c aw r.2 s'→Step [] J aw s s'→aC s'.heap aw r.1 w→Q w s'):wpAny (model c.prog c.w) A (binaryOp .Add (.ref al) (.ref jI)) Q E s:=by
 refine concat_meets ⟨_,bW,rfl⟩ ⟨_,ll,rfl⟩ noFill_list_add seq_list_add PySem.F.slot_list_add PySem.F.entry_list_add (PySem.F.args_list_add_2 _ _) (list_addW al jI vs.toArray us.toArray n c' none none #[] #[] (by rw[List.size_toArray,List.size_toArray,←rs.length,←qg.length,sizeLine_eq];exact Nat.le_trans hz (by decide))) ⟨bW,ll,?_⟩
 rw[List.append_toArray]
 exact I.newList .refl (rs.append qg) e q
theorem SN{al:Addr}{w:Value}{n:Nat}{x:V}{b:Int}{t:Tok}(I:aX c J H s)(bW:s.heap.get? al=some (eR [w] n))(cR:aC s.heap J x w)(h0:0≤b)(hz:b≤1000000)
 (e:some (.loc H.length,H++[.list (List.replicate b.toNat x)])=some r) (q:∀aw s' w,aX c aw r.2 s'→Step [] J aw s s'→aC s'.heap aw r.1 w→Q w s'):wpAny (model c.prog c.w) A (binaryOp .Mult (.ref al) (.int b t)) Q E s:=by
 have aD:b.toNat≤1000000:=Int.toNat_le.mpr hz
 have az: -(2^63)≤b∧b<2^63:=⟨Int.le_trans (by decide) h0,Int.lt_of_le_of_lt hz (by decide)⟩
 refine wpAny_binaryOp_repeat_ref (T:="list") (U:="int") (by decide) ⟨_,bW,rfl⟩ (fun s'=>typeIs_int s' b t) noFill_list_mul PySem.F.fills_int_mul PySem.F.slot_int_rmul repeat_list PySem.F.slot_int_index.lookup
  (PySem.call_meets PySem.F.slot_int_rmul (typeIs_int s b t) PySem.F.entry_int_rmul (PySem.F.args_int_rmul_2 _ _) (int___rmul___int_list b t al [w].toArray n)
   ⟨bW,rfl,⟨_,bW,rfl⟩,PySem.call_meets PySem.F.slot_list_mul ⟨_,bW,rfl⟩ PySem.F.entry_list_mul (PySem.F.args_list_mul_2 _ _)
    (AutoListH.list___mul___list_int_3 al [w].toArray n b t (by rw[show Builtin.List.listFitsIndex b=true from Bool.and_eq_true_iff.mpr ⟨decide_eq_true az.1,decide_eq_true az.2⟩];exact fun h=>nomatch h) (by simp;omega) (by simp[Builtin.List.listTooLong,sizeLine];omega))
    ⟨bW,?_⟩⟩)
 have fJ:List.foldl (fun a6 bj=>a6++bj) (#[]:Array Value) (List.replicate (if [w].toArray.isEmpty=true then 0 else b.toNat) [w].toArray)=(List.replicate b.toNat w).toArray:=by
  rw[show([w].toArray).isEmpty=false from rfl,listMul_foldl]
  simp only[Bool.false_eq_true,if_false]
  rw[lm_rep_flat_one];rfl
 rw[fJ]
 exact I.newList .refl (K2 cR _) e q
theorem W6{op:Operator}{x y:V}{nN j6:Value}(I:aX c J H s)(e:ik op x y H=some r)(bl:aC s.heap J x nN)(bN:aC s.heap J y j6)(q:∀aw s' w,aX c aw r.2 s'→Step [] J aw s s'→aC s'.heap aw r.1 w→Q w s'):
 wpAny (model c.prog c.w) A (binaryOp op nN j6) Q E s:=by
 cases x with
 |int a=>
  exact bQ e fun b az e=>dq e fun i hi e=>bl.fM (G:=fun nN=>wpAny _ A (binaryOp op nN j6) Q E s) fun t=>aC.fM (G:=fun j6=>wpAny _ A (binaryOp op _ j6) Q E s) (k' az▸bN) fun u=>
   RD hi fun bt sj=>KE.of (congrArg some e.symm) q J _ _ I.toks .toks .mkInt
 |loc l=>
  refine bQ e fun xs au e=>bl.gr (G:=fun nN=>wpAny _ A (binaryOp op nN j6) Q E s) fun al aP=>I.hL aP (iv au) fun vs n bW rs=> ?_
  cases y with
  |loc m=>
   refine bQ e fun ci hm e=>c3 e fun rz e=>bN.gr (G:=fun j6=>wpAny _ A (binaryOp op _ j6) Q E s) fun jI az=>I.hL az (iv hm) fun us c' ll qg=> ?_
   rw[rz.1]
   exact SM I bW ll rs qg rz.2 e q
  |int b=>
   refine bQ e fun x af e=>c3 e fun rz e=>bN.fM (G:=fun j6=>wpAny _ A (binaryOp op _ j6) Q E s) fun t=> ?_
   rw[rz.1]
   exact mY (G:=fun vs=>s.heap.get? al=some (eR vs n)→wpAny _ A _ Q E s) af rs (fun w cR bW=>SN I bW cR rz.2.1 rz.2.2 e q) bW
  |_=>exact cn e
 |_=>exact cn e
end
theorem cw{op:Operator}{l r:Expr}{D R:a0}{pos:Pos}(au:bA c nm k l D)(aZ:bA c nm k r R):bA c nm k (.BinOp l op r pos) (bI op D R):=
 fun _ aL _ _ _ _ I F _ _ d _ a _ _ q=>Nf d fun _ _ _ _ ag ah e=>wpAny_BinOp (two au aZ aL I F ag ah a fun _ _ _ _ bx _ bB bl bN=>W6 bx e bl bN fun aw s' w c4 st r=>q aw s' w c4 (bB.trans st) r)
noncomputable def jn(D:a0):a0:=cC D fun v _ H1=>((jk v).map fun i=>V.int (-i)).map (·,H1)
theorem oO{e:Expr}{D:a0}{pos:Pos}(h:bA c nm k e D):bA c nm k (.UnaryOp .USub e pos) (jn D):=
 fun _ aL _ _ _ _ I F _ _ d A a Q E q=>pn (f:=fun v _=>(jk v).map fun i=>V.int (-i)) d fun _ ag aR=>dq aR fun _ hi e=>wpAny_UnaryOp (h.at aL I F ag a fun cy s1 _ br _ bo bl=>
  aC.fM (G:=fun w=>wpAny _ A (unaryOp .USub w) Q E s1) (k' hi▸bl) fun _=>PyProof.Rows.neg_int (q cy _ _ br.toks (bo.trans .toks) (e▸ .mkInt)))
noncomputable def tf(D:a0):a0:=cC D fun v _ H1=>(so v).map fun b=>(.bool (!b),H1)
theorem xD{e:Expr}{D:a0}{pos:Pos}(h:bA c nm k e D):bA c nm k (.UnaryOp .Not e pos) (tf D):=by
 intro fr aL J σ H s I F v H' d A a Q E q
 refine vL (f:=fun v _=>so v) d fun x b ag az aR=>wpAny_UnaryOp (h.at aL I F ag a fun cy s1 c1 br dO bo bl=> ?_)
 unfold unaryOp
 refine wpAny_holding ?_
 dsimp only
 rw[if_pos (by decide)]
 exact wpAny_bind (uU az bl (wpAny_pure (q cy _ _ br bo (aR▸ .oF))))
noncomputable def gz(isOr:Bool):List a0→a0
 |[]=>fun _ _=>none
 |[D]=>D
 |D::E::r=>cC D fun v σ H1=>(so v).bind fun b=>if b=isOr then some (v,H1)else gz isOr (E::r) σ H1
inductive kj(c:a9)(nm:a5)(k:Nat):List Expr→List a0→Prop
 |nil:kj c nm k [] []
 |cons {e:Expr} {av:List Expr} {D:a0} {bb:List a0}:bA c nm k e D→kj c nm k av bb→kj c nm k (e::av) (D::bb)
theorem JW{isOr:Bool}{pos:Pos}{fr:cX}(aL:dw nm fr):∀{av:List Expr} {bb:List a0},kj c nm k av bb→∀{J:List Addr} {σ:aN} {H:ao} {s:Shared},aX c J H s→dm c nm fr J σ s→∀{v H'},gz isOr bb σ H=some (v,H')→
 ∀{A:Around},cz k A→∀{Q E:Value→Shared→Prop},(∀aw s' w,aX c aw H' s'→Step [] J aw s s'→aC s'.heap aw v w→Q w s')→wpAny (model c.prog c.w) A (boolOp pos (if isOr then .Or else .And) (evalEach av fr.env)) Q E s:=by
 intro av bb h
 induction h with
 |nil=>intro J σ H s I F v H' d;exact cn d
 | @cons e av D bb ag ah aK=>
  intro J σ H s I F v H' d A a Q E q
  cases ah with
  |nil=>exact ag fr aL J σ H s I F v H' d A a Q E q
  | @cons bW Oi dc XR aE a7=>
   refine dp d fun u H1 cL d=>bQ d fun b az d=> ?_
   show wpAny _ _ (do
    let v←eval e fr.env
    standAt pos
    let t←holding [v] (truthy v)
    match(if isOr then BoolOp.Or else .And),t with
    | .And,false| .Or,true=>pure v
    |_,_=>boolOp pos (if isOr then .Or else .And) (evalEach (bW::Oi) fr.env)) _ _ _
   refine wpAny_bind (ag.at aL I F cL a fun cy s1 c1 br dO bo bl=>wpAny_bind (wpAny_standAt (wpAny_bind (wpAny_holding (uU az bl ?_)))))
   cases isOr<;>cases b
   ·exact wpAny_pure (KE.of d q cy s1 c1 br bo bl)
   ·exact aK br dO d a fun ct s2 dE bx bB bN=>q ct s2 dE bx (bo.trans bB) bN
   ·exact aK br dO d a fun ct s2 dE bx bB bN=>q ct s2 dE bx (bo.trans bB) bN
   ·exact wpAny_pure (KE.of d q cy s1 c1 br bo bl)
theorem xA{av:List Expr}{bb:List a0}{pos:Pos}(h:kj c nm k av bb):bA c nm k (.BoolOp .And av pos) (gz false bb):=
 fun fr aL J σ H s I F v H' d A a Q E q=>JW (isOr:=false) aL h I F d a q
theorem BS{av:List Expr}{bb:List a0}{pos:Pos}(h:kj c nm k av bb):bA c nm k (.BoolOp .Or av pos) (gz true bb):=
 fun fr aL J σ H s I F v H' d A a Q E q=>JW (isOr:=true) aL h I F d a q
noncomputable def DQ(gX hq:CmpOp)(D R S:a0):a0:=fun σ H=>(lj gX hq D R S σ H).map fun p=>(.bool p.1,p.2)
theorem VE(ok:c.Ok){gX hq:CmpOp}{l r t:Expr}{D R S:a0}{pos:Pos}(au:bA c nm k l D)(aZ:bA c nm k r R)(bg:bA c nm k t S)(hm:lastMarks [gX,hq] [r,t]=false:=by with_unfolding_all rfl):
 bA c nm k (.Compare l [gX,hq] [r,t] pos) (DQ gX hq D R S):=by
 intro fr aL J σ H s I F v H' d A a Q E q
 refine dq d fun p d e=>DR (v:=p.1) (H':=p.2) d fun x H1 y aG b ag ah az aB=>Compare_chain (au.at aL I F ag a fun cy s1 c1 br dO bo bl=> ?_) hm
 refine chain_link (aZ.at aL br dO ah a fun ct s2 dE bx eO bB bN=>qA ok bx az (bl.step br bB) bN a.room fun bt=>wpAny_truthy_bool ?_)
 have q:=KE.of (congrArg some e.symm) q
 cases b with
 |false=>
  obtain⟨aR,zL⟩:=aB.1 rfl
  exact q ct _ _ (zL▸bx.toks) ((bo.trans bB).trans .toks) (aR▸ .oF)
 |true=>
  exact aB.2 rfl _ fun u aE tI=>chain_last (bg.at aL (bx.toks (t:=bt)) (eO.toks (t:=bt)) aE a fun ec s3 qD c0 jE cB fq=>qA ok c0 tI (aC.step (s:={s2 with toks:=bt}) bx.toks cB bN) fq a.room fun bt=>q ec _ _ c0.toks ((((bo.trans bB).trans .toks).trans cB).trans .toks) .oF)
end
noncomputable def nK(H:ao)(v:V):Option Str:=(toD H 8 v).bind fun d=>if d.showable&& !d.hasDict&&decide (d.depth≤8)&&decide (d.shown.length≤16777216)then some d.shown else none
noncomputable def eZ:bz:=fun args H=>(kl args).bind fun v=>(nK H v).map fun x=>(.str x,H)
noncomputable def insI(x:Int):List Int→List Int
 |[]=>[x]
 |y::r=>if x≤y then x::y::r else y::insI x r
noncomputable def sortI(l:List Int):List Int:=l.foldr insI []
noncomputable def xK:List Str→Option (List Str)
 |[]=>some []
 |[x]=>some [x]
 |[x,y]=>some (if Spec.ltCps y.cps.toList x.cps.toList then [y,x]else [x,y])
 |_=>none
noncomputable def uK(H:ao):Option aM→Option (List V)
 |some (.eI ps)=>if ps.length<64 then some ((sortI (ps.map (·.1))).map .int)else none
 |some (.aS ps)=>(xK (ps.map (·.1))).map fun ks=>ks.map .str
 |_=>none
noncomputable def l5:bz:=fun args H=>(kl args).bind fun v=>(lb v).bind fun l=>(uK H H[l]?).map fun xs=>(.loc H.length,H++[.list xs])
theorem insI_perm(x:Int)(l:List Int):(insI x l).Perm (x::l):=by
 induction l with
 |nil=>exact .refl _
 |cons y r aK=>
  show(if x≤y then x::y::r else y::insI x r).Perm _
  by_cases h:x≤y
  ·rw[if_pos h]
  ·rw[if_neg h];exact(aK.cons y).trans (.swap x y r)
theorem sortI_perm(l:List Int):(sortI l).Perm l:=by
 induction l with
 |nil=>exact .refl _
 |cons x l aK=>exact(insI_perm x _).trans (aK.cons x)
theorem RM(x:Int){l:List Int}(h:l.Pairwise (· ≤ ·)):(insI x l).Pairwise (· ≤ ·):=by
 induction l with
 |nil=>exact List.pairwise_singleton ..
 |cons y r aK=>
  have ax:=List.pairwise_cons.mp h
  show(if x≤y then x::y::r else y::insI x r).Pairwise _
  by_cases af:x≤y
  ·rw[if_pos af]
   exact List.pairwise_cons.mpr ⟨fun z hz=>(List.mem_cons.mp hz).elim (fun e=>e▸af) fun hz=>Int.le_trans af (ax.1 z hz),h⟩
  ·rw[if_neg af]
   exact List.pairwise_cons.mpr ⟨fun z hz=>(List.mem_cons.mp ((insI_perm x r).mem_iff.mp hz)).elim (fun e=>e▸Int.le_of_lt (Int.not_le.mp af)) (ax.1 z),aK ax.2⟩
theorem V3(l:List Int):(sortI l).Pairwise (· ≤ ·):=by
 induction l with
 |nil=>exact .nil
 |cons x l aK=>exact RM x aK
theorem V7{a:List Int}:∀{b:List Int},a.Perm b→a.Pairwise (· ≤ ·)→b.Pairwise (· ≤ ·)→a=b:=by
 induction a with
 |nil=>exact fun p _ _=>(List.nil_perm.mp p).symm
 |cons x a aK=>
  intro b p aP az
  cases b with
  |nil=>exact absurd p.length_eq (fun h=>nomatch h)
  |cons y b=>
   have aP:=List.pairwise_cons.mp aP
   have az:=List.pairwise_cons.mp az
   have ag:x≤y:=(List.mem_cons.mp (p.mem_iff.mpr (List.mem_cons_self (a:=y)))).elim (fun h=>Int.le_of_eq h.symm) (aP.1 y)
   have ah:y≤x:=(List.mem_cons.mp (p.mem_iff.mp (List.mem_cons_self (a:=x)))).elim (fun h=>Int.le_of_eq h.symm) (az.1 x)
   obtain rfl:=Int.le_antisymm ag ah
   rw[aK (List.perm_cons x|>.mp p) aP.2 az.2]
theorem S0(a:List Nat):∀b:List Nat,Spec.ltCps a b=false→Spec.ltCps b a=false→a=b:=by
 induction a with
 |nil=>
  intro b h _
  cases b with
  |nil=>rfl
  |cons _ _=>exact nomatch h
 |cons x r aK=>
  intro b ag ah
  cases b with
  |nil=>exact nomatch ah
  |cons y t=>
   have ag:=Bool.or_eq_false_iff.mp ag
   have ah:=Bool.or_eq_false_iff.mp ah
   obtain rfl:x=y:=Nat.le_antisymm (Nat.not_lt.mp (of_decide_eq_false ah.1)) (Nat.not_lt.mp (of_decide_eq_false ag.1))
   have e:∀{b:Bool},((x==x)&&b)=false→b=false:=fun{b} h=>by rw[beq_self_eq_true,Bool.true_and] at h;exact h
   rw[aK t (e ag.2) (e ah.2)]
theorem V4{x y:Str}{ss:List Str}(dB:x≠y)(p:ss.Perm [x,y]):ss=[x,y]∨ss=[y,x]:=by
 cases ss with
 |nil=>exact nomatch p.length_eq
 |cons a r=>
  have aP:=List.mem_cons.mp (p.mem_iff.mp (List.mem_cons_self (a:=a)))
  refine aP.elim (fun e=> ?_) fun e=> ?_
  ·subst e
   exact .inl (congrArg _ (List.perm_singleton.mp (List.perm_cons a|>.mp p)))
  ·obtain rfl:=List.mem_singleton.mp e
   exact .inr (congrArg _ (List.perm_singleton.mp (List.perm_cons a|>.mp (p.trans (.swap a x [])))))
theorem Kc{l ss ks:List Str}(h:xK l=some ks)(bk:l.Nodup):l.length≤2∧(ss.Perm l→sortedS ss=true→ss=ks):=by
 match l,h,bk with
 |[],h,_=>exact⟨Nat.zero_le _,fun p _=>(List.perm_nil.mp p).trans (Option.some.inj h)⟩
 |[x],h,_=>exact⟨Nat.le_succ 1,fun p _=>(List.perm_singleton.mp p).trans (Option.some.inj h)⟩
 |[x,y],h,bk=>
  have dB:x≠y:=fun e=>(List.nodup_cons.mp bk).1 (e▸List.mem_cons_self)
  refine⟨Nat.le_refl 2,fun p a=>Eq.trans ?_ (Option.some.inj h)⟩
  refine(V4 dB p).elim (fun e=> ?_) fun e=> ?_
  ·subst e
   cases bU:Spec.ltCps y.cps.toList x.cps.toList with
   |true=>exact nomatch a.symm.trans ((congrArg (fun b=> !b&&true) bU))
   |false=>exact(if_neg Bool.false_ne_true).symm
  ·subst e
   cases bU:Spec.ltCps y.cps.toList x.cps.toList with
   |true=>exact(if_pos rfl).symm
   |false=>
    have ah:Spec.ltCps x.cps.toList y.cps.toList=false:=Bool.not_eq_true' _|>.mp (Bool.and_eq_true_iff.mp a).1
    exact absurd (congrArg Str.mk (Array.toList_inj.mp (S0 _ _ ah bU))) dB
theorem RO{h:Heap}{J:List Addr}{vs:List Value}{ns:List Int}(x:IntsAre vs ns):bL h J (ns.map .int) vs:=by
 induction x with
 |nil=>exact .kO
 |cons n t _ aK=>exact .ai .mkInt aK
theorem Kk{h:Heap}{J:List Addr}{vs:List Value}{ns:List Str}(x:StrsAre vs ns):bL h J (ns.map .str) vs:=by
 induction x with
 |nil=>exact .kO
 |cons n t _ aK=>exact .ai .mkStr aK
section
variable{c:a9}{k:Nat}
theorem kU:fS c k (.builtin "repr") eZ:=by
 intro J H s args vals I r v H' d A a Q E q
 refine bQ d fun x af d=>dq d fun y aQ e=>mY (G:=fun vals=>wpAny _ A (call _ vals []) Q E s) af r fun w cR=>bQ aQ fun dd hd aQ=>c3 aQ fun aU aQ=> ?_
 obtain rfl:=Option.some.inj aQ
 have q:=KE.of (congrArg some e.symm) q
 clear e aQ
 have⟨aU,a7⟩:=Bool.and_eq_true_iff.mp aU
 have⟨aU,aE⟩:=Bool.and_eq_true_iff.mp aU
 have⟨ag,ah⟩:=Bool.and_eq_true_iff.mp aU
 have hz:dd.shown.length≤sizeLine:=sizeLine_eq▸of_decide_eq_true a7
 have big:∀dg,w= .ref dg→wpAny (model c.prog c.w) A (call (.builtin "repr") [w] []) Q E s:=fun dg e=>(uC I _ _ _ _ hd cR).elim fun as du=>by
  subst e
  exact i' (repr_of_reads' du ag (PyData.noDict_hsm ((Bool.not_eq_true' _).mp ah)) a.2.2.1 (by have:=a.room;have:=of_decide_eq_true aE;omega) (fun _ _ e=>e) (fun ax u bt aB gp=>q J _ _ (I.grow (s':={s with heap:=ax,toks:=bt}) aB gp) (.grow aB gp rfl rfl) .mkStr) hz)
 cases x with
 |none=>obtain rfl:=Option.some.inj hd;exact cR.lE (G:=fun w=>wpAny _ A (call _ [w] []) Q E s) (P.repr_of_none (q J _ _ I.toks .toks .mkStr))
 |bool b=>obtain rfl:=Option.some.inj hd;exact cR.lZ (G:=fun w=>wpAny _ A (call _ [w] []) Q E s) (P.repr_of_bool (q J _ _ I.toks .toks (by cases b<;>exact .mkStr)))
 |int i=>obtain rfl:=Option.some.inj hd;exact cR.fM (G:=fun w=>wpAny _ A (call _ [w] []) Q E s) fun t=>P.repr_of_int (of_decide_eq_true ag) (q J _ _ I.toks .toks .mkStr)
 |str z=>obtain rfl:=Option.some.inj hd;exact cR.ff (G:=fun w=>wpAny _ A (call _ [w] []) Q E s) fun t=>P.repr_of_str (q J _ _ I.toks .toks .mkStr) hz
 |tup xs=>exact cR.xU.elim fun dg ⟨_,_,e,_⟩=>big dg e
 |loc l=>exact cR.rN.elim fun dg e=>big dg e.1
 |ins C l=>exact cn hd
 |st v=>exact cn hd
theorem Gv{A:Around}{E:Value→Shared→Prop}{s:Shared}{d:Addr}{n:Nat}{K:Type} [DecidableEq K]{knd:PySem.KeyKind c.prog c.w K}{kvs:List (K×Value)}{Q:Value→Shared→Prop}(bU:A.handled=none)(aY:(d==sysModules)=false)(hm:s.heap.DictAt knd d kvs n)(hz:kvs.length<64)
 (q:∀(ax:Heap) (bt:Nat) (acc:Array Value),(∀b o,s.heap.get? b=some o→ax.get? b=some o)→ItemsOf (fun i v=>∃k x,kvs[i]?=some (k,x)∧knd.is k v=true) acc kvs.length→(ax.push (seqObj "list" acc 0)).get? ax.objs.size=some (seqObj "list" acc.toList.toArray 0)→s.heap.objs.size≤ax.objs.size→
  wpAny (model c.prog c.w) A.in1.in1 (Builtin.«list.sort» ⟨[.ref ax.objs.size],[]⟩) (fun fin s'=>match fin with
   | .done (.ret _)=>Q (.ref ax.objs.size) s'
   |_=>False) (fun e s'=>E e s') {s with heap:=ax.push (seqObj "list" acc 0),toks:=bt}):wpAny (model c.prog c.w) A (call (.builtin "sorted") [.ref d]) Q E s:=by
 refine Calls.call_function_entry kind_sorted plain_sorted entry_sorted (args_sorted1 _) ?_
 unfold Builtin.«sorted»
 refine wpAny_bind (m:=checkCount "sorted" 1 1 _) (wpAny_pure ?_)
 refine wpAny_bind (i' (kdu_collect (A:=A.in1) (kdl_dict (knd:=knd) (kvs:=kvs) (ep:=n) aY) bU hm (by rw[sizeLine_eq];omega) fun ax bt acc aB ox pS=> ?_))
 have au:acc.toList.length=kvs.length:=by rw[Array.length_toList];exact ox.1
 refine wpAny_bind (wpAny_newList ?_ (by rw[au,sizeLine_eq];omega))
 have l_:(ax.push (seqObj "list" acc 0)).get? ax.objs.size=some (seqObj "list" acc.toList.toArray 0):=by
  rw[Heap.get?_push_size _ rfl]
 have e:acc.toList.toArray=acc:=by simp
 show wpAny _ _ _ _ _ {s with heap:=ax.push (seqObj "list" acc.toList.toArray 0),toks:=bt}
 rw[e]
 refine wpAny_bind (wpAny_holding (wpAny_call_entry slot_list_sort ⟨_,l_,rfl⟩ entry_list_sort (wpAny_mono (q ax bt acc aB ox l_ pS) (fun fin s' x=> ?_) fun e s' x=>x) (args_list_sort _)))
 cases fin with
 |done f=>
  cases f with
  |ret v=>exact⟨v,rfl,wpAny_pure ⟨_,rfl,x⟩⟩
  |_=>exact x.elim
 |again _=>exact x.elim
theorem RX{K:Type}{p:K→Value→Prop}{P:List Value→List K→Prop}(aD:P [] [])(aU:∀{k v vs ks},p k v→P vs ks→P (v::vs) (k::ks))(vs:List Value):∀(l:List (K×Value)),vs.length=l.length→
 (∀(j:Nat) (v:Value),vs[j]?=some v→∃(k:K) (x:Value),l[j]?=some (k,x)∧p k v)→P vs (l.map (·.1)):=by
 induction vs with
 |nil=>intro l au _;obtain rfl:=List.length_eq_zero_iff.mp au.symm;exact aD
 |cons v vs aK=>
  intro l au aR
  cases l with
  |nil=>exact nomatch au
  |cons q l=>
   obtain⟨k,x,e,aB⟩:=aR 0 v rfl
   obtain rfl:=Option.some.inj e
   exact aU aB (aK l (Nat.succ.inj au) fun j v e=>aR (j+1) v e)
theorem Gm{K:Type}{p:K→Value→Prop}{P:List Value→List K→Prop}(aD:P [] [])(aU:∀{k v vs ks},p k v→P vs ks→P (v::vs) (k::ks)){acc:Array Value}{kvs:List (K×Value)}{ks:List K}(h:ItemsOf (fun i v=>∃k x,kvs[i]?=some (k,x)∧p k v) acc kvs.length)(e:kvs.map (·.1)=ks):P acc.toList ks:=
 e▸RX aD aU acc.toList kvs (Array.length_toList.trans h.1) fun j v e=>h.2 j v (Array.getElem?_toList.symm.trans e)
theorem Kd{J:List Addr}{H:ao}{s:Shared}{ax:Heap}{acc out:Array Value}{bt:Nat}{xs:List V}{r:V×ao}{Q:Value→Shared→Prop}(I:aX c J H s)(aB:∀b o,s.heap.get? b=some o→ax.get? b=some o)(pS:s.heap.objs.size≤ax.objs.size)
 (l_:(ax.push (seqObj "list" acc 0)).get? ax.objs.size=some (seqObj "list" acc.toList.toArray 0)) (hz:s.heap.objs.size≤(sortedHeap (ax.push (seqObj "list" acc 0)) ax.objs.size acc.toList out).objs.size) (rs:∀h J,bL h J xs out.toList) (e:some (.loc H.length,H++[.list xs])=some r)
 (q:∀aw s' w,aX c aw r.2 s'→Step [] J aw s s'→aC s'.heap aw r.1 w→Q w s'):Q (.ref ax.objs.size) {s with heap:=sortedHeap (ax.push (seqObj "list" acc 0)) ax.objs.size acc.toList out,toks:=bt}:=by
 have nc:∀b o,s.heap.get? b=some o→(sortedHeap (ax.push (seqObj "list" acc 0)) ax.objs.size acc.toList out).get? b=some o:=fun b o e=>
  have az:=Heap.lt_size (aB b o e)
  (sortedHeap_old (Nat.ne_of_lt az) (by rw[size_push'];exact Nat.lt_succ_of_lt az)).trans (Heap.get?_push_of_some _ (aB b o e))
 obtain⟨aJ,aT⟩:=sortedHeap_at (out:=out) l_
 have N:=I.Dj (t:=bt) (m:= .list xs) nc hz pS aT ⟨out.toList,aJ,rfl,rs _ _⟩
 exact KE.of e q _ _ _ N.1 N.2 ⟨_,rfl,I.lX⟩
theorem xE(ok:c.Ok):fS c (k+1) (.builtin "sorted") l5:=by
 intro J H s args vals I r v H' d A a Q E q
 refine bQ d fun x af d=>bQ d fun l aR d=>dq d fun xs hm e=>mY (G:=fun vals=>wpAny _ A (call _ vals []) Q E s) af r fun w cR=>aC.gr (G:=fun w=>wpAny _ A (call _ [w] []) Q E s) (mZ aR▸cR) fun dg aP=> ?_
 have aY:=qb ok I (List.mem_of_getElem? aP)
 cases au:H[l]? with
 |none=>exact cn ((congrArg (uK H) au).symm.trans hm)
 |some m=>
  have hm:=(congrArg (uK H) au).symm.trans hm
  refine I.mh aP au fun o ah aE=> ?_
  cases m with
  |eI ps=>
   refine c3 hm fun hz hm=> ?_
   obtain⟨av,n,rfl,rs,bk⟩:=aE
   obtain⟨kvs,g⟩:=(ke.toG (prog:=c.prog) (w:=c.w) rs).of
   have hlen:kvs.length<64:=by have:=congrArg List.length g.2.2.keys;rw[List.length_map,List.length_map] at this;exact this▸hz
   refine i' (Gv a.hd aY (g.dictAt ah bk) hlen fun ax bt acc aB ox l_ pS=> ?_)
   have jO:IntsAre acc.toList (ps.map (·.1)):=Gm .nil (fun aB t=>(Value.isInt_shape aB).elim fun bt e=>e▸ .cons _ bt t) ox g.2.2.keys
   refine list_sort_tree l_ jO (by rw[Array.length_toList,ox.1];exact hlen) fun out Ue a1 a2 ee gp=> ?_
   obtain rfl:Ue=sortI (ps.map (·.1)):=V7 (a2.trans (sortI_perm _).symm) ee (V3 _)
   exact Kd (s:=s) I aB pS l_ gp (fun _ _=>(Option.some.inj hm)▸RO a1) (congrArg some e.symm) q
  |aS ps=>
   refine dq hm fun ks FJ hm=> ?_
   obtain⟨av,n,rfl,rs,bk⟩:=aE
   obtain⟨kvs,g⟩:=(fl.toG (prog:=c.prog) rs).of
   have hlen:kvs.length<64:=by have:=congrArg List.length g.2.2.keys;rw[List.length_map] at this;exact this▸Nat.lt_of_le_of_lt (Kc (ss:=[]) FJ bk).1 (by decide)
   refine i' (Gv a.hd aY (g.dictAt ah bk) hlen fun ax bt acc aB ox l_ pS=> ?_)
   have jO:StrsAre acc.toList (ps.map (·.1)):=Gm .nil (fun aB t=>(Value.isStrOf_shape aB).elim fun bt e=>e▸ .cons _ bt t) ox g.2.2.keys
   refine list_sort_treeK strKind_oneLt l_ jO.keysOf (fun Yu Yv rest e=>keyKind_strs (e▸jO)) (by rw[Array.length_toList,ox.1];exact hlen) fun eL aH hK gp=> ?_
   obtain⟨V8,a1,a2,ee⟩:=sorted_out_str jO aH hK
   obtain rfl:V8=ks:=(Kc FJ bk).2 a2 ee
   exact Kd (s:=s) I aB pS l_ gp (fun _ _=>hm▸Kk a1) (congrArg some e.symm) q
  |_=>exact cn hm
end
section
open Builtin.Str
noncomputable def n'(v:V)(H:ao):Option (Nat×List V):=(lb v).bind fun l=>(h_ H[l]?).map fun xs=>(l,xs)
noncomputable def yI(v:V)(H:ao):Option (Nat×List (Str×V)):=(lb v).bind fun l=>(lW H[l]?).map fun xs=>(l,xs)
section
variable{c:a9}{J:List Addr}{H:ao}{s:Shared}{v:V}{w:Value}
theorem vA{p:Nat×List V}(e:n' v H=some p):v= .loc p.1∧H[p.1]?=some (.list p.2):=bQ e fun l au e=>dq e fun xs af e=>e▸⟨mZ au,iv af⟩
theorem vz{p:Nat×List (Str×V)}(e:yI v H=some p):v= .loc p.1∧H[p.1]?=some (.aS p.2):=bQ e fun l au e=>dq e fun xs af e=>e▸⟨mZ au,pj af⟩
theorem sW{p:Nat×List V}{G:Value→Prop}(e:n' v H=some p)(I:aX c J H s)(r:aC s.heap J v w)(k:∀a vs n,J[p.1]?=some a→s.heap.get? a=some (eR vs n)→bL s.heap J p.2 vs→G (.ref a)):G w:=
 aC.gr ((vA e).1▸r) fun a aP=>I.hL aP (vA e).2 fun vs n h rs=>k a vs n aP h rs
theorem aX.Cc{l:Nat}{a:Addr}{cF:Obj}{m':aM}{ax:Heap}{t:Nat}{r:V×ao}{Q:Value→Shared→Prop}(I:aX c J H s)(e:some (v,H.set l m')=some r)(aP:J[l]?=some a)(q:∀aw s' w,aX c aw r.2 s'→Step [] J aw s s'→aC s'.heap aw r.1 w→Q w s')
 (aY:Heap.SameBut a s.heap ax) (aT:ax.get? a=some cF) (aZ:hB c s.heap J cF m') (lJ:aC s.heap J v w):Q w {s with heap:=ax,toks:=t}:=
 have T:=I.turn (t:=t) aP aY aT aZ
 KE.of e q J _ w T.1 T.2 (lJ.step I T.2)
theorem K3{vs:List Value}{xs:List V}{h:Heap}(rs:bL h J xs vs):vs.toArray.size=xs.length:=List.size_toArray.trans rs.length.symm
end
noncomputable def g4(F:bz):Sel:=fun v H=>(n' v H).map fun _=>(F,true)
noncomputable def qm(F:bz):Sel:=fun v H=>(yI v H).map fun _=>(F,true)
noncomputable def uF(F:bz):Sel:=fun v _=>(km v).map fun _=>(F,true)
noncomputable def hG:bz:=fun args H=>(lV args).bind fun p=>(n' p.1 H).bind fun q=>if q.2.length≤1000000 then some (.none,H.set q.1 (.list (q.2++[p.2])))else none
noncomputable def zd:bz:=fun args H=>(kl args).bind fun v=>(n' v H).bind fun q=>if q.2.length≤1000000 then(q.2.getLast?).map fun x=>(x,H.set q.1 (.list q.2.dropLast))else none
noncomputable def za:bz:=fun args H=>(lV args).bind fun p=>(n' p.1 H).bind fun q=>(n' p.2 H).bind fun u=>if q.2.length+u.2.length≤1000000 then some (.none,H.set q.1 (.list (q.2++u.2)))else none
noncomputable def pD:bz:=fun args H=>(lV args).bind fun p=>(yI p.1 H).bind fun q=>(km p.2).map fun x=>((cH x q.2).getD .none,H)
noncomputable def Cj(xs:List V):Option (List Str):=t8 xs
noncomputable def zc:bz:=fun args H=>(lV args).bind fun p=>(km p.1).bind fun x=>(n' p.2 H).bind fun q=>(Cj q.2).bind fun ci=>if(ci.map (·.length)).sum+ci.length*x.length≤16777216 then some (.str (Txt.join x ci),H)else none
noncomputable def zf:bz:=fun args H=>(lV args).bind fun p=>(km p.1).bind fun x=>(km p.2).bind fun y=>if x.length≤1000000 then some (.str (Txt.stripChars x y),H)else none
section
variable{c:a9}{k:Nat}
theorem kS{name:Str}{id:String}{F:bz}(slot:Slot "list" name id)(pY:typeOf (.builtin id)=pure (.type "method_descriptor"))(h:fS c k (.builtin id) F):mW c k name (g4 F):=
 fun v H vd b e=>dq e fun p aH e=>by cases e;exact⟨_,c7 _,BP PySem.F.plainAttrs_list slot pY (SO (vA aH).1 (vA aH).2),h⟩
theorem uE{name:Str}{id:String}{F:bz}(slot:Slot "dict" name id)(pY:typeOf (.builtin id)=pure (.type "method_descriptor"))(h:fS c k (.builtin id) F):mW c k name (qm F):=
 fun v H vd b e=>dq e fun p aH e=>by cases e;exact⟨_,c7 _,BP PySem.F.plainAttrs_dict slot pY (Nr (vz aH).1 (vz aH).2 fun xs e=>nomatch e),h⟩
theorem xz{name:Str}{id:String}{F:bz}(slot:Slot "str" name id)(pY:typeOf (.builtin id)=pure (.type "method_descriptor"))(h:fS c k (.builtin id) F):mW c k name (uF F):=
 fun v H vd b e=>dq e fun p aH e=>by
  cases e
  exact⟨_,c7 _,BP PySem.F.plainAttrs_str slot pY fun J s u I r=>aC.ff (G:=fun u=>s.TypeIs u "str"∧∀a,u= .ref a→∃o,s.heap.get? a=some o∧o.dict=none) (kn aH▸r) fun t=>⟨typeIs_str _ _ _,fun a e=>nomatch e⟩,h⟩
theorem mu:fS c k (.builtin "list.append") hG:=by
 intro J H s args vals I r v H' d A a Q E q
 refine bQ d fun p aH d=>bQ d fun z hz d=>c3 d fun au e=>n_ (G:=fun vals=>wpAny _ A (call _ vals []) Q E s) aH r fun w y bl bN=>sW (G:=fun w=>wpAny _ A (call _ [w,y] []) Q E s) hz I bl fun dg vs n aP ah rs=> ?_
 exact append_at (its:=vs.toArray) ah (fun ax aY fA=>I.Cc (t:=s.toks) e aP q aY (fA.trans (by rw[List.push_toArray];rfl)) ⟨vs++[y],n+1,rfl,rs.append (.one bN)⟩ .mkNone) (by rw[K3 rs,sizeLine_eq];exact Nat.le_trans au (by decide))
theorem Xh{h:Heap}{J:List Addr}{xs:List V}{x:V}{G:Prop}(e:xs.getLast?=some x):∀{ws:List Value},bL h J xs ws→(∀w,ws.getLast?=some w→aC h J x w→bL h J xs.dropLast ws.dropLast→G)→G:=by
 induction xs generalizing G with
 |nil=>exact cn e
 |cons y xs aK=>
  rintro ws ⟨w,t,rfl,a,b⟩ k
  cases xs with
  |nil=>
   obtain rfl:=Option.some.inj e
   rw[show t=[]from b] at k
   exact k w rfl a .kO
  |cons z xs=>
   refine aK (by rwa[List.getLast?_cons_cons] at e) b fun mH ag ah aE=> ?_
   obtain⟨dE,gL,rfl,_,_⟩:=b
   exact k mH (by rw[List.getLast?_cons_cons];exact ag) ah (.ai a aE)
theorem Uq{h:Heap}{dg:Addr}{vs:List Value}{n:Nat}{y:Value}(ah:h.get? dg=some (eR vs n))(aQ:vs.getLast?=some y):(h.update dg (Obj.mapSeq fun xs=>xs.eraseIdxIfInBounds (vs.toArray.size - 1))).get? dg=some (eR vs.dropLast (n+1)):=by
 rw[get?_update_seq ah]
 have ak:vs.toArray.eraseIdxIfInBounds (vs.toArray.size - 1)=vs.dropLast.toArray:=by
  apply Array.ext'
  rw[Array.toList_eraseIdxIfInBounds]
  simp[List.eraseIdx_eq_dropLast]
 have zY:0<vs.length:=List.length_pos_iff.mpr fun e=>by rw[e] at aQ;cases aQ
 rw[ak,show(vs.dropLast.toArray.size==vs.toArray.size)=false from beq_eq_false_iff_ne.mpr (by rw[List.size_toArray,List.size_toArray,List.length_dropLast];exact Nat.ne_of_lt (Nat.sub_lt zY Nat.one_pos))]
 rfl
theorem VU:fS c k (.builtin "list.pop") zd:=by
 intro J H s args vals I r v H' d A a Q E q
 refine bQ d fun x af d=>bQ d fun z hz d=>c3 d fun au e=>dq e fun u bR e=>mY (G:=fun vals=>wpAny _ A (call _ vals []) Q E s) af r fun w bl=>sW (G:=fun w=>wpAny _ A (call _ [w] []) Q E s) hz I bl fun dg vs n aP ah rs=>Xh bR rs fun y aQ Vh eh=> ?_
 refine PySem.call_meets PySem.F.slot_list_pop ⟨_,ah,rfl⟩ PySem.F.entry_list_pop (PySem.F.args_list_pop_1 _) (MeetsSeq.list_pop_last dg vs.toArray n y (by rw[List.size_toArray,List.getElem?_toArray,←List.getLast?_eq_getElem?];exact aQ) (by rw[K3 rs,sizeLine_eq];exact Nat.le_trans au (by decide))) ⟨ah,?_⟩
 exact I.Cc (t:=s.toks) (congrArg some e.symm) aP q (Heap.SameBut.update ..) (Uq ah aQ) ⟨_,_,rfl,eh⟩ Vh
theorem VJ:fS c k (.builtin "list.extend") za:=by
 intro J H s args vals I r v H' d A a Q E q
 refine bQ d fun p aH d=>bQ d fun z hz d=>bQ d fun u bR d=>c3 d fun au e=>n_ (G:=fun vals=>wpAny _ A (call _ vals []) Q E s) aH r fun w y bl bN=>sW (G:=fun w=>wpAny _ A (call _ [w,y] []) Q E s) hz I bl fun dg vs n aP ah rs=>sW (G:=fun y=>wpAny _ A (call _ [_,y] []) Q E s) bR I bN fun MR us c' az a7 qg=> ?_
 have gp:vs.length+us.length≤1000000:=by rw[←rs.length,←qg.length];exact au
 refine PySem.call_meets PySem.F.slot_list_extend ⟨_,ah,rfl⟩ PySem.F.entry_list_extend (PySem.F.args_list_extend_2 _ _) (AutoSeq1.list_extend_list_list_0 dg vs.toArray n MR us.toArray c' (by simp[Builtin.List.listTooLong,sizeLine];omega) (by rw[List.size_toArray,sizeLine_eq];exact Nat.le_trans (Nat.le_trans (Nat.le_add_right ..) gp) (by decide)) (by rw[List.size_toArray,List.size_toArray,sizeLine_eq];exact Nat.le_trans gp (by decide))) ⟨ah,a7,?_⟩
 exact I.Cc (t:=s.toks) e aP q (Heap.SameBut.update ..) ((get?_update_seq ah _).trans (by rw[List.append_toArray];rfl)) ⟨_,_,rfl,rs.append qg⟩ .mkNone
theorem uI(ok:c.Ok):fS c k (.builtin "dict.get") pD:=by
 intro J H s args vals I r v H' d A a Q E q
 refine bQ d fun p aH d=>bQ d fun z hz d=>dq d fun x af e=>n_ (G:=fun vals=>wpAny _ A (call _ vals []) Q E s) aH r fun w y bl bN=>aC.gr (G:=fun w=>wpAny _ A (call _ [w,y] []) Q E s) ((vz hz).1▸bl) fun dg aP=>aC.ff (G:=fun w=>wpAny _ A (call _ [_,w] []) Q E s) (kn af▸bN) fun t=>(AT I aP (vz hz).2).elim fun f hf=> ?_
 refine call_meetsIn PySem.F.slot_dict_get hf.1.typeIs PySem.F.entry_dict_get (PySem.F.args_dict_get_2 _ _) (meets_dict_get (PySem.strKind c.prog c.w) dg (strKind_is c.prog c.w x t) (qb ok I (List.mem_of_getElem? aP))) ⟨f,hf.1,KE.of (congrArg some e.symm) q J _ _ I.toks .toks ?_⟩
 have:=hf.2 x
 show aC s.heap J ((cH x z.2).getD .none) _
 generalize cH x z.2=o at*
 generalize f x=u at*
 cases this with
 |nil=>exact .mkNone
 |one r=>exact r
theorem Xb{h:Heap}{J:List Addr}{xs:List V}{ci:List Str}{vs:List Value}(e:Cj xs=some ci)(r:bL h J xs vs):StrsAre vs ci:=
 wT (P:=fun ks vs=>StrsAre vs ks) .nil (fun{_ a mH ks vs} aQ cp t=>aC.ff (G:=fun w=>StrsAre (w::vs) (a::ks)) (kn aQ▸cp) fun bt=> .cons _ bt t) e r
theorem J3:fS c k (.builtin "str.join") zc:=
 fun J H s args vals I r v H' d A a Q E q=>bQ d fun p aH d=>bQ d fun x af d=>bQ d fun z hz d=>bQ d fun ci aQ d=>c3 d fun au e=>n_ (G:=fun vals=>wpAny _ A (call _ vals []) Q E s) aH r fun w y bl bN=>aC.ff (G:=fun w=>wpAny _ A (call _ [w,y] []) Q E s) (kn af▸bl) fun t=>
  sW (G:=fun y=>wpAny _ A (call _ [_,y] []) Q E s) hz I bN fun dg vs n aP ah rs=>join_list (items:=vs.toArray) ⟨_,ah,rfl,n,rfl⟩ (Xb aQ rs) au fun j1 k=>KE.of e q J _ _ I.toks .toks .mkStr
theorem VZ:fS c k (.builtin "str.strip") zf:=
 fun J H s args vals I r v H' d A a Q E q=>bQ d fun p aH d=>bQ d fun x af d=>bQ d fun y aQ d=>c3 d fun au e=>n_ (G:=fun vals=>wpAny _ A (call _ vals []) Q E s) aH r fun w z bl bN=>aC.ff (G:=fun w=>wpAny _ A (call _ [w,z] []) Q E s) (kn af▸bl) fun t=>
  aC.ff (G:=fun z=>wpAny _ A (call _ [_,z] []) Q E s) (kn aQ▸bN) fun u=>SC.stripChars (fun j1 k=>KE.of e q J _ _ I.toks .toks .mkStr) (by rw[sizeLine_eq];exact Nat.le_trans au (by decide))
noncomputable def ze:bz:=fun args H=>(lV args).bind fun p=>(km p.1).bind fun x=>(km p.2).bind fun y=>if x.length≤1000000∧y.length≠0∧(partsBetween x (occurrences x y 0 x.length (x.length+1)) y.length).length≤1000000 then some (.loc H.length,H++[.list ((Txt.split x y).map .str)])else none
theorem We(l:List (Str×Tok)):StrsAre (strValues l) (l.map (·.1)):=by
 induction l with
 |nil=>exact .nil
 |cons p l aK=>exact .cons p.1 p.2 aK
theorem VY:fS c k (.builtin "str.split") ze:=by
 intro J H s args vals I r v H' d A a Q E q
 refine bQ d fun p aH d=>bQ d fun x af d=>bQ d fun y aQ d=>c3 d fun hz e=>n_ (G:=fun vals=>wpAny _ A (call _ vals []) Q E s) aH r fun w z bl bN=>aC.ff (G:=fun w=>wpAny _ A (call _ [w,z] []) Q E s) (kn af▸bl) fun t=>aC.ff (G:=fun z=>wpAny _ A (call _ [_,z] []) Q E s) (kn aQ▸bN) fun u=> ?_
 have fin:∀(l:List (Str×Tok)) (bt:Nat),l.map (·.1)=Txt.split x y→Q (.ref s.heap.objs.size) {s with heap:=s.heap.push {cls:= .type "list",data:= .seq (strValues l).toArray},toks:=bt}:=
  fun l bt au=>I.newList (n:=0) .refl (au▸Kk (We l)) e q
 clear e q I bl bN r
 have aQ:(y.length==0)=false:=beq_eq_false_iff_ne.mpr hz.2.1
 cases ag:(decide (x.length<y.length)||decide (Builtin.Str.strKind x<Builtin.Str.strKind y))
 ·cases hf:(occurrences x y 0 x.length (x.length+1)).isEmpty
  ·refine PySem.call_meets PySem.F.slot_str_split (typeIs_str _ _ _) PySem.F.entry_str_split (PySem.F.args_str_split_2 _ _) (meets_str_split_sep x y t u ag aQ hf (by rw[sizeLine_eq];exact Nat.le_trans hz.1 (by decide)) (by rw[sizeLine_eq];exact Nat.le_trans hz.2.2 (by decide))) ?_
   show wants Q E _ {s with toks:=_,heap:=s.heap.push {cls:= .type "list",data:= .seq (strsFrom s.toks (partsBetween x (occurrences x y 0 x.length (x.length+1)) y.length)).toArray}}
   rw[strsFrom_eq]
   exact fin (numbered s.toks _) _ ((numbered_texts _ _).trans ((if_neg (ne_true_of_eq_false ag)).trans (if_neg (ne_true_of_eq_false hf))).symm)
  ·exact PySem.call_meets PySem.F.slot_str_split (typeIs_str _ _ _) PySem.F.entry_str_split (PySem.F.args_str_split_2 _ _) (meets_str_split_not_found x y t u ag aQ hf)
    (fin [(x,t)] s.toks ((if_neg (ne_true_of_eq_false ag)).trans (if_pos hf)).symm)
 ·exact PySem.call_meets PySem.F.slot_str_split (typeIs_str _ _ _) PySem.F.entry_str_split (PySem.F.args_str_split_2 _ _) (meets_str_split_cannot_occur x y t u ag)
   (fin [(x,t)] s.toks (if_pos ag).symm)
end
end
theorem M'{elt:Expr}{gens:List Comprehension}{scope:Scope}{pos:Pos}{d:Nat}{i a:Value}{env:Env}:(Code.compLoop (.ListComp elt gens scope pos) d i a env).weight≤2:=Nat.le_of_ble_eq_true rfl
theorem M8{e:Expr}{d:Nat}{i a:Value}{env:Env}:(Code.compLoop e d i a env).guards=[]:=rfl
theorem M_{elt:Expr}{gens:List Comprehension}{scope:Scope}{pos:Pos}{d:Nat}{i a:Value}{env:Env}:(Code.compLoop (.ListComp elt gens scope pos) d i a env).cUnits≤50:=Nat.le_of_ble_eq_true rfl
noncomputable def qU(c:a9)(nm:a5)(k:Nat)(ifs:List Expr)(D:cK):Prop:=
 ∀(fr:cX),dw nm fr→∀(J:List Addr) (σ:aN) (H:ao) (s:Shared),aX c J H s→dm c nm fr J σ s→∀v H',D σ H=some (v,H')→
  ∀(A:Around),cz k A→∀(Q:Bool→Shared→Prop) (E:Value→Shared→Prop),
   (∀aw s',aX c aw H' s'→Step [] J aw s s'→Q v s')→wpAny (model c.prog c.w) A (forIn ifs true fun c r=>if r=true then do let ok←isTrue c fr.env (eval c fr.env);pure (ForInStep.yield ok)else pure (ForInStep.yield r)) Q E s
noncomputable def eY:cK:=fun _ H=>some (true,H)
theorem oN{c:a9}{nm:a5}{k:Nat}:qU c nm k [] eY:=
 fun _ _ J _ _ s I _ _ _ d _ _ _ _ q=>lK d fun e aR=>wpAny_tests_nil (aR▸q J s (e▸I) .refl)
theorem qp{c:a9}{nm:a5}{k:Nat}{e:Expr}{D:cK}(h:h9 c nm k e D):qU c nm k [e] D:=by
 intro fr aL J σ H s I F v H' d A a Q E q
 exact wpAny_tests_one (h fr aL J σ H s I F v H' d A a Q E q)
noncomputable def jm(nx:fk)(T:V→aN→ao→Option aN)(Ti:cK)(De:a0)(L:Nat):Nat→Nat→aN→ao→Option ao
 |0,_=>fun _ _=>none
 |n+1,i=>fun σ H=>(nx i H).bind fun o=>match o with
  |some v=>(T v σ H).bind fun b3=>cC Ti (fun b _ H1=>match b with
   |true=>cC De (fun x _ aG=>(h_ aG[L]?).bind fun xs=>if xs.length≤1000000 then jm nx T Ti De L n (i+1) b3 (aG.set L (.list (xs++[x])))else none) b3 H1
   |false=>jm nx T Ti De L n (i+1) b3 H1) b3 H
  |none=>some H
section
variable{c:a9}{nm:a5}{k:Nat}
section
variable{env:Env}{I D:Addr}{cg elt iter:Expr}{ifs:List Expr}{scope:Scope}{pos:Pos}{A:Around}{R:Result→Shared→Prop}{s:Shared}
noncomputable def Lq(c:a9)(u2 A:Around)(R:Result→Shared→Prop)(cg elt:Expr)(ifs:List Expr)(env:Env)(D:Addr)(cd:Code)(w:Value)(s2:Shared):Prop:=wpAny (model c.prog c.w) u2 (do
 assign cg env w
 let mut ok:=true
 for c in ifs do
  if ok then ok←isTrue c env (eval c env)
 if ok then
  (do let _←call (.builtin "list.append") [.ref D,←eval elt env])
 again cd) (fun fin s'=>match fin with| .done f=>R (.ok f) s'| .again s6=>s6.quiet=true∧codeAny (model c.prog c.w) A s6 R s') (fun _ _=>False) s2
theorem M6(h:wpAny (model c.prog c.w) (A.under (.compLoop (.ListComp elt [⟨cg,iter,ifs,0⟩] scope pos) 0 (.ref I) (.ref D) env)) (pyNext (.ref I)) (fun r s1=>r=none∧R (.ok .next) s1) (fun _ _=>False) s):
 codeAny (model c.prog c.w) A (.compLoop (.ListComp elt [⟨cg,iter,ifs,0⟩] scope pos) 0 (.ref I) (.ref D) env) R s:=by
 refine codeAny_of_tree ?_
 show wpAny _ _ ((compTurn (.ListComp elt [⟨cg,iter,ifs,0⟩] scope pos) 0 (.ref I) (.ref D) env).onRaise _) _ _ s
 refine wpAny_onRaise (wpAny_mono (E:=fun _ _=>False) ?_ (fun _ _ x=>x) fun _ _ x=>x.elim)
 rw[compTurn_list]
 refine wpAny_bind (wpAny_standAt (wpAny_bind (wpAny_mono h (fun r s1 x=> ?_) fun _ _ x=>x.elim)))
 obtain⟨rfl,x⟩:=x
 exact wpAny_pure x
theorem M7(h:wpAny (model c.prog c.w) (A.under (.compLoop (.ListComp elt [⟨cg,iter,ifs,0⟩] scope pos) 0 (.ref I) (.ref D) env)) (pyNext (.ref I)) (fun r s1=>∃w,r=some w∧wpAny (model c.prog c.w) (A.under (.compLoop (.ListComp elt [⟨cg,iter,ifs,0⟩] scope pos) 0 (.ref I) (.ref D) env)) (letOwnedTupleGo cg (.ref I) w)
 (fun _ s2=>s.heap.objs.size≤s2.heap.objs.size→Lq c (A.under (.compLoop (.ListComp elt [⟨cg,iter,ifs,0⟩] scope pos) 0 (.ref I) (.ref D) env)) A R cg elt ifs env D (.compLoop (.ListComp elt [⟨cg,iter,ifs,0⟩] scope pos) 0 (.ref I) (.ref D) env) w s2) (fun _ _=>False) s1) (fun _ _=>False) s):
 codeAny (model c.prog c.w) A (.compLoop (.ListComp elt [⟨cg,iter,ifs,0⟩] scope pos) 0 (.ref I) (.ref D) env) R s:=by
 refine codeAny_of_tree ?_
 show wpAny _ _ ((compTurn (.ListComp elt [⟨cg,iter,ifs,0⟩] scope pos) 0 (.ref I) (.ref D) env).onRaise _) _ _ s
 refine wpAny_onRaise (wpAny_mono (E:=fun _ _=>False) ?_ (fun _ _ x=>x) fun _ _ x=>x.elim)
 rw[compTurn_list]
 refine wpAny_bind (wpAny_standAt (wpAny_bind (i' (wpAny_mono h (fun r s1 x Ad=> ?_) fun _ _ x=>x.elim))))
 obtain⟨w,rfl,x⟩:=x
 exact wpAny_bind (i' (wpAny_mono x (fun _ s2 bj oC=>bj (Nat.le_trans Ad oC)) fun _ _ x=>x))
end
theorem M5{fr:cX}(aL:dw nm fr){I:Addr}{wr:List Addr}{nx:fk}{cg:Expr}{lM:V}{lN:Value}{St:Nat→Heap→Prop}(it:mO c I wr nx cg lM lN St){T:V→aN→ao→Option aN}{ifs:List Expr}{Ti:cK}{elt:Expr}{De:a0}
 (bg:n7 c nm k cg T) (hi:qU c nm k ifs Ti) (he:bA c nm k elt De) {L:Nat} {iter:Expr} {scope:Scope} {pos:Pos}:
 ∀(n i:Nat) (J:List Addr) (σ:aN) (H:ao) (s:Shared) (D:Addr),St i s.heap→aC s.heap J lM lN→k6 c fr J wr s.heap→b_ c nm fr J σ H s→J[L]?=some D→∀H',jm nx T Ti De L n i σ H=some H'→∀(A:Around),cz (k+1) A→∀(R:Result→Shared→Prop),
  (∀aw ba s',b_ c nm fr aw ba H' s'→Step (wr++fr.own) J aw s s'→R (.ok .next) s')→codeAny (model c.prog c.w) A (.compLoop (.ListComp elt [⟨cg,iter,ifs,0⟩] scope pos) 0 (.ref I) (.ref D) fr.env) R s:=by
 intro n
 induction n with
 |zero=>intro i J σ H s D _ _ _ _ _ H' d;exact cn d
 |succ n aK=>
  intro i J σ H s D hK pZ X jj cL H' d A a R q
  have cp:cz k (A.under (.compLoop (.ListComp elt [⟨cg,iter,ifs,0⟩] scope pos) 0 (.ref I) (.ref D) fr.env)):=a.AM M' M8 M_
  have K7:∀x∈wr,x∈wr++fr.own:=fun x=>List.mem_append_left _
  refine bQ d fun o aD d=> ?_
  cases o with
  |none=>exact M6 (i' (it.done i J H s hK X.oK jj.h pZ aD _ a.hd _ _ fun ax bt aB hz=>⟨rfl,q J σ _ (Option.some.inj d▸jj.other X aB hz) (.other aB hz K7)⟩))
  |some v=>
   refine bQ d fun b3 c_ d=>dp d fun b H1 Qc d=>M7 (it.item i J H s hK X.oK jj.h pZ v aD _ a.hd _ _ fun ax bt w tZ aB lJ hz=> ?_)
   refine wpAny_bind (bg fr aL J σ H _ (jj.other X aB hz) v w b3 lJ c_ _ cp _ _ fun s3 sQ cB=>wpAny_bind (hi fr aL J b3 H s3 sQ.h sQ.f _ _ Qc _ cp _ _ fun lO s5 n1 fR=> ?_))
   have cont:∀fh cW s4,b_ c nm fr fh b3 cW s4→Step fr.own J fh {s with heap:=ax,toks:=bt} s4→jm nx T Ti De L n (i+1) b3 cW=some H'→codeAny (model c.prog c.w) A (.compLoop (.ListComp elt [⟨cg,iter,ifs,0⟩] scope pos) 0 (.ref I) (.ref D) fr.env) R s4:=by
    intro fh cW s4 vl mx yY
    have t0:St (i+1) s4.heap:=it.keep _ _ _ tZ fun x af o e=>mx.ey x o e (X.oK x af) (X.own x af)
    exact aK (i+1) fh b3 cW s4 D t0 (aC.turn jj X aB mx pZ) (X.step (it.alive _ _ tZ) (it.alive _ _ t0) mx) vl (mx.lk _ _ cL) H' yY A a R fun lO x5 s5 n6 fR=>q lO x5 s5 n6 (((Step.other aB hz K7).trans (mx.more fun _=>List.mem_append_right _)).trans fR)
   have n6:=sQ.step n1 fR
   cases b with
   |false=>exact wpAny_pure ⟨rfl,cont lO H1 s5 n6 (cB.trans fR.weaken) d⟩
   |true=>
    refine dp d fun x aG fm d=>bQ d fun xs au d=>c3 d fun RA d=>wpAny_bind (wpAny_bind (he.at aL n6.h n6.f fm cp fun Ln eA Xn yh XU sd UU=> ?_))
    have Fh:Ln[L]?=some D:=sd.lk _ _ (fR.lk _ _ cL)
    refine yh.hL Fh (iv au) fun vs Tn bW rs=>wpAny_bind (append_at (its:=vs.toArray) bW (fun pL Rh QI=> ?_) (by rw[List.size_toArray,←rs.length,sizeLine_eq];exact Nat.le_trans RA (by decide)))
    have T:=yh.turn (t:=eA.toks) (m':= .list (xs++[x])) Fh Rh (QI.trans (by rw[List.push_toArray];rfl)) ⟨vs++[Xn],Tn+1,rfl,rs.append (.one UU)⟩
    exact wpAny_pure (wpAny_pure ⟨rfl,cont Ln _ _ ((n6.step yh sd).step T.1 T.2) (cB.trans (((fR.trans sd).trans T.2).weaken)) d⟩)
end
noncomputable def hF:List (Nat×Nat)→aN→aN
 |[],_=>fun _=>none
 |(j,i)::r,σ=>fun y=>if y=j then σ i else hF r σ y
theorem MS{σ:aN}{y:Nat}{v:V}{caps:List (Nat×Nat)}:hF caps σ y=some v→∃i,(y,i)∈caps∧σ i=some v:=by
 induction caps with
 |nil=>exact cn
 |cons p r aK=>
  intro e
  replace e:(if y=p.1 then σ p.2 else hF r σ y)=some v:=e
  by_cases h:y=p.1
  ·rw[if_pos h] at e;exact⟨p.2,h▸List.mem_cons_self,e⟩
  ·rw[if_neg h] at e;exact(aK e).elim fun i q=>⟨i,List.mem_cons_of_mem _ q.1,q.2⟩
structure hY(nm c2:a5)(caps:List (Nat×Nat)):Prop where
 each:∀p∈caps,∃x wU,c2[p.1]?=some (x, .free)∧nm[p.2]?=some (x,wU)∧(wU= .cell∨wU= .free)
 all:∀j x,c2[j]?=some (x, .free)→∃i,(j,i)∈caps
theorem ST(f:Str→NameKind→NameKind)(names:a5)(x:Str):(names.map fun p=>(p.1,f p.1 p.2)).lookup x=(names.lookup x).map (f x):=by
 induction names with
 |nil=>rfl
 |cons p r aK=>
  rw[List.map_cons,List.lookup_cons,show List.lookup x (p::r)=_ from List.lookup_cons,aK]
  cases h:x==p.1 with
  |true=>exact congrArg (fun z=>some (f z p.2)) (eq_of_beq h).symm
  |false=>rfl
noncomputable def xo(env:Env)(n:Str)(k:NameKind):NameKind:=if(k== .free&&env.scope.kind== .function&&env.kindOf n==some .cell)=true then .cell else k
theorem Jv(scope:Scope)(env:Env):(relabel scope env).names=scope.names.map fun p=>(p.1,xo env p.1 p.2):=by
 unfold relabel xo
 refine List.map_congr_left fun p _=> ?_
 show(if _ then _ else _)=(_,if _ then _ else _)
 split<;>rfl
noncomputable def Cz(env:Env)(names:a5)(acc:List (Str×Addr)):Sem (List (Str×Addr)):=forIn names acc (fun(p:Str×NameKind) (cs:List (Str×Addr))=>if(p.2==NameKind.free)=true then(do let a←cellOf env p.1;pure (ForInStep.yield ((p.1,a)::cs)))else pure (ForInStep.yield cs))
theorem M0(env:Env){names:a5}:∀{acc:List (Str×Addr)},(names.map (·.1)).Nodup→(∀x,(x,NameKind.free)∈names→(env.cells.lookup x).isSome=true)→
 ∃cl,Cz env names acc=pure cl∧(∀x,(x,NameKind.free)∈names→cl.lookup x=env.cells.lookup x)∧(∀x,x∉names.map (·.1)→cl.lookup x=acc.lookup x):=by
 induction names with
 |nil=>exact fun{acc} _ _=>⟨acc,rfl,fun _ h=>(nomatch h),fun _ _=>rfl⟩
 |cons p r aK=>
  intro acc bk aU
  have bk:=List.nodup_cons.mp bk
  have ru:=fun x af=>aU x (List.mem_cons_of_mem _ af)
  have off:∀{x:Str},x∉(p::r).map (·.1)→x≠p.1∧x∉r.map (·.1):=fun h=>not_or.mp fun q=>h (List.mem_cons.mpr q)
  unfold Cz
  rw[List.forIn_cons]
  by_cases aB:p.2= .free
  ·have aH:p=(p.1, .free):=by rw[←aB]
   obtain⟨a,aP⟩:=Option.isSome_iff_exists.mp (aU p.1 (aH▸List.mem_cons_self))
   obtain⟨cl,ag,ah,aE⟩:=aK (acc:=(p.1,a)::acc) bk.2 ru
   refine⟨cl,?_,fun x af=>(List.mem_cons.mp af).elim (fun af=> ?_) (ah x),fun x af=> ?_⟩
   ·rw[if_pos (beq_iff_eq.mpr aB),show cellOf env p.1=pure a by unfold cellOf;rw[aP]]
    exact ag
   ·rw[show x=p.1 from congrArg Prod.fst af,aE p.1 bk.1,aP,List.lookup_cons,beq_self_eq_true]
   ·rw[aE x (off af).2,List.lookup_cons,show(x==p.1)=false from beq_eq_false_iff_ne.mpr (off af).1]
  ·obtain⟨cl,ag,ah,aE⟩:=aK (acc:=acc) bk.2 ru
   refine⟨cl,?_,fun x af=>(List.mem_cons.mp af).elim (fun af=>absurd (congrArg Prod.snd af).symm aB) (ah x),fun x af=>aE x (off af).2⟩
   rw[if_neg fun q=>aB (beq_iff_eq.mp q)]
   exact ag
noncomputable def ef(caps:List (Nat×Nat))(D:fH)(T:V→aN→ao→Option aN)(Ti:cK)(De:a0):a0:=cC D fun nx σ H1=>if caps.all (fun p=>(σ p.2).isSome)=true then(jm nx T Ti De H1.length kx 0 (hF caps σ) (H1++[.list []])).map (V.loc H1.length, ·)else none
structure nR(nm c2:a5)(caps:List (Nat×Nat))(scope:Scope):Prop where
 names:scope.names=c2
 kind:scope.kind= .function
 bk:(nm.map (·.1)).Nodup
 A1:(c2.map (·.1)).Nodup
 mf:∀p∈c2,p.2≠ .cell
 caps:hY nm c2 caps
section
variable{c:a9}{nm c2:a5}{k:Nat}
section
variable{fr:cX}{J fh:List Addr}{σ:aN}{H cW:ao}{s s4:Shared}{scope:Scope}{caps:List (Nat×Nat)}{cl:List (Str×Addr)}{C:Addr}
inductive Lp(env:Env)(c2:a5)(h:Heap)(J:List Addr)(j:Nat)(v:V):Prop
 |mk (x:Str) (gv:Value) (b4:Addr) (aD:c2[j]?=some (x, .free)) (aU:env.cells.lookup x=some b4) (aB:h.IsCell b4 (some gv)) (r:aC h J v gv)
theorem DF(co:nR nm c2 caps scope)(aL:dw nm fr)(F:dm c nm fr J σ s){j i:Nat}(hm:(j,i)∈caps){v:V}(gE:σ i=some v):Lp fr.env c2 s.heap J j v:=by
 obtain⟨m,aD,bH,aR⟩:=F.loc
 obtain⟨x,wU,ak,bW,fJ⟩:=co.caps.each _ hm
 obtain⟨y,gv,g1,g2,g3⟩:=aR i v gE
 obtain rfl:x=y:=Option.some.inj ((congrArg (Option.map Prod.fst) bW).symm.trans g1)
 have Qp:=aL.s_ x (by rw[lookup_at co.bk bW];exact fJ.imp (congrArg some) (congrArg some))
 refine g2.elim (fun g2=> ?_) fun⟨_,b4,fy,iT⟩=>⟨x,gv,b4,ak,fy,iT,g3⟩
 exact Qp.elim (fun h=>nomatch g2.1.symm.trans h) fun h=>nomatch g2.1.symm.trans h
theorem MZ(co:nR nm c2 caps scope)(aL:dw nm fr)(F:dm c nm fr J σ s)(zP:caps.all (fun p=>(σ p.2).isSome)=true):∃cl,closureFor scope fr.env=pure cl∧∀x,(x,NameKind.free)∈c2→cl.lookup x=fr.env.cells.lookup x:=by
 obtain⟨cl,ag,ah,_⟩:=M0 fr.env (names:=c2) (acc:=[]) co.A1 fun x af=>by
  obtain⟨j,bM⟩:=List.getElem?_of_mem af
  obtain⟨i,hi⟩:=co.caps.all j x bM
  obtain⟨v,aR⟩:=Option.isSome_iff_exists.mp (List.all_eq_true.mp zP (j,i) hi)
  obtain⟨jA,_,b4,ak,bW,_,_⟩:=DF co aL F hi aR
  rw[show x=jA from congrArg Prod.fst (Option.some.inj (bM.symm.trans ak)),bW];rfl
 refine⟨cl,?_,ah⟩
 rw[←co.names] at ag
 exact Eq.trans (congrArg (fun(x:Sem (List (Str×Addr)))=>x>>=fun r=>pure r) ag) rfl
theorem yV(co:nR nm c2 caps scope)(x:Str):(compEnvC scope cl C fr.env).kindOf x=(c2.lookup x).map (xo fr.env x):=by
 show(relabel scope fr.env).names.lookup x=_
 rw[Jv,ST (xo fr.env),co.names]
theorem DK(co:nR nm c2 caps scope)(aL:dw nm fr):dw c2 ⟨compEnvC scope cl C fr.env,[C]⟩:=by
 refine⟨co.kind,aL.globals,aL.builtins,?_,fun x af=> ?_,fun x af=> ?_,fun x af=> ?_⟩
 ·show(relabel scope fr.env).names.map _=_
  rw[Jv,co.names,List.map_map];rfl
 ·rw[yV co,af];rfl
 ·rw[yV co,af];rfl
 ·rw[yV co]
  refine af.elim (fun af=> .inl (by rw[af];rfl)) fun af=> ?_
  rw[af]
  show some (if _ then _ else _)=_∨some (if _ then _ else _)=_
  split
  ·exact .inl rfl
  ·exact .inr rfl
theorem M9(co:nR nm c2 caps scope)(aL:dw nm fr)(I:aX c J H s)(F:dm c nm fr J σ s)(tK:∀x,(x,NameKind.free)∈c2→cl.lookup x=fr.env.cells.lookup x)(st:Step [] J fh s s4)(h5:aX c fh cW s4)(nh:s4.heap.Ns C (fun _=>none))
 (c9:C∉fh) (az:c.base.get? C=none):b_ c c2 ⟨compEnvC scope cl C fr.env,[C]⟩ fh (hF caps σ) cW s4:=by
 have no:∀x,c2.lookup x≠some .cell:=fun x af=>co.mf _ (mem_of_lookup af) rfl
 refine⟨h5,⟨fX ⟨c9,az,?_⟩,_,nh,c9,fun j v bM=> ?_⟩,List.mem_cons_self,fun x af=>absurd af (no x),fun⟨x,af⟩=>absurd af (no x)⟩
 ·obtain⟨o,av,ep,aT,hd,_⟩:=nh
  exact⟨o,aT, .inl ⟨av,ep,hd⟩⟩
 ·obtain⟨i,hm,gE⟩:=MS bM
  obtain⟨x,gv,b4,ak,fy,iT,g3⟩:=DF co aL F hm gE
  exact⟨x,gv,by unfold nameAt;rw[ak];rfl, .inr ⟨(DK co aL).s_ x (.inr (lookup_at co.A1 ak)),b4,(tK x (List.mem_of_getElem? ak)).trans fy,IsCell.of_get iT fun o e=>st.ey _ _ e (I.mf iT) List.not_mem_nil⟩,g3.step I st⟩
theorem OU{h:Heap}{b:Addr}{v:Option Value}(x:∃o vs,h.get? b=some o∧o.data= .fields vs)(aU:h.IsCell b v):False:=by
 obtain⟨o,vs,aT,hd⟩:=x
 obtain⟨cF,ek,e7⟩:=aU
 rw[aT] at ek;cases ek
 exact nomatch hd.symm.trans e7
theorem I4{h:Heap}{b:Addr}{m:Str→Option Value}{o:Obj}(x:h.Ns b m)(e:h.get? b=some o):¬fi o:=by
 obtain⟨cF,av,ep,aT,hd,_⟩:=x
 rw[e] at aT;cases aT
 exact uv (.inl ⟨av,ep,hd⟩)
theorem JX{iter cg elt:Expr}{ifs:List Expr}{scope:Scope}{pos:Pos}{caps:List (Nat×Nat)}{D:fH}{T:V→aN→ao→Option aN}{Ti:cK}{De:a0}(co:nR nm c2 caps scope)(tY:ph c nm k iter cg D)(bg:n7 c c2 k cg T)
 (hi:qU c c2 k ifs Ti) (he:bA c c2 k elt De) (aY:∀env x,foldedSetIterable iter env x=pure x) {fr:cX} (aL:dw nm fr) {J:List Addr} {σ:aN} {H:ao} {s:Shared} (I:aX c J H s) (F:dm c nm fr J σ s)
 {v:V} {H':ao} (d:ef caps D T Ti De σ H=some (v,H')) {A:Around} (a:cz (k+1) A) {use:Option (Value→Sem Unit)} {Q E:Value→Shared→Prop} {mi:Pos}
 (q:∀aw s' w,aX c aw H' s'→Step [] J aw s s'→aC s'.heap aw v w→∀C,s.heap.objs.size≤C→C∉aw→(∃m,s'.heap.Ns C m)→compPost (model c.prog c.w) A E use Q w C (.ok .next) s'):
 wpAny (model c.prog c.w) A (comprehension (.ListComp elt [⟨cg,iter,ifs,0⟩] scope pos) scope fr.env mi (newList []) false (eval iter fr.env) use) Q E s:=by
 refine dp d fun nx H1 ag d=>c3 d fun zP d=>dq d fun aG ah e=>(MZ co aL F zP).elim fun cl tK=> ?_
 refine wpAny_comprehension_free rfl (aY _) tK.1 co.kind (fun x af au=> ?_) ?_
 ·obtain⟨j,bM⟩:=List.getElem?_of_mem (co.names▸af)
  obtain⟨y,gq⟩:=x
  cases au
  rw[co.names]
  exact lookup_at co.A1 bM
 refine tY fr aL J σ H s I F nx H1 ag A a.pred _ _ fun cy s1 yi wr St v1 c1 it j0 bl br bo hw=> ?_
 refine wpAny_newList ?_ (Nat.zero_le sizeLine)
 have N:=br.alloc (o:=eR [] 0) (m:= .list []) (t:=s1.toks) ⟨[],0,rfl, .kO⟩
 refine wpAny_newFunctionEnv (fun x af=>co.mf x (co.names▸af)) (fun y aQ=>nomatch aQ) (fun a7 FU z6=> ?_) co.kind
 have c9:(s1.heap.push (eR [] 0)).objs.size=s1.heap.objs.size+1:=Heap.size_push ..
 change Heap.SameBut (s1.heap.push (eR [] 0)).objs.size ((s1.heap.push (eR [] 0)).push {cls:= .type "dict",data:= .dict #[]}) a7 at z6
 change a7.Ns (s1.heap.push (eR [] 0)).objs.size (fun _=>none) at FU
 show codeAny _ A (.compStart (.ListComp elt [⟨cg,iter,ifs,0⟩] scope pos) 0 (.ref yi) (.ref s1.heap.objs.size) (compEnvC scope cl (s1.heap.push (eR [] 0)).objs.size fr.env)) (compPost (model c.prog c.w) A E use Q (.ref s1.heap.objs.size) (s1.heap.push (eR [] 0)).objs.size) {s1 with heap:=a7,toks:=s1.toks+0}
 have F_:(s1.heap.push (eR [] 0)).objs.size≤a7.objs.size:=by rw[z6.1,Heap.size_push (s1.heap.push (eR [] 0))];exact Nat.le_succ _
 have zT:∀b o,(s1.heap.push (eR [] 0)).get? b=some o→a7.get? b=some o:=fun b o e=>(z6.2 b (Nat.ne_of_lt (Heap.lt_size e))).trans (Heap.get?_push_of_some _ e)
 generalize (s1.heap.push (eR [] 0)).objs.size=C at*
 subst c9
 have h5:aX c (cy++[s1.heap.objs.size]) (H1++[.list []]) {s1 with heap:=a7,toks:=s1.toks+0}:=N.1.grow (s':={s1 with heap:=a7,toks:=s1.toks+0}) zT (by rw[Heap.size_push];exact F_)
 have Kh:Step [] cy (cy++[s1.heap.objs.size]) s1 {s1 with heap:=a7,toks:=s1.toks+0}:=N.2.trans (.grow (s:={s1 with heap:=s1.heap.push (eR [] 0)}) zT (by rw[Heap.size_push];exact F_) rfl rfl)
 have Kg:=bo.trans Kh
 have z4:s.heap.objs.size≤s1.heap.objs.size+1:=Nat.le_succ_of_le bo.size
 have PP:s1.heap.objs.size+1∉cy++[s1.heap.objs.size]:=fun h=>(AV h).elim (fun h=>Nat.lt_irrefl _ (Nat.lt_of_succ_lt (br.lt h))) fun h=>Nat.succ_ne_self _ h
 have z':∀b∈wr,b<s1.heap.objs.size:=fun b az=>(it.alive 0 _ j0 b az).elim fun o ⟨vs,aT,_⟩=>Heap.lt_size aT
 have xM:St 0 a7:=it.keep 0 _ _ j0 fun b az o e=>zT b o (Heap.get?_push_of_some _ e)
 have Ms:k6 c ⟨compEnvC scope cl (s1.heap.objs.size+1) fr.env,[s1.heap.objs.size+1]⟩ (cy++[s1.heap.objs.size]) wr a7:=
  ⟨fun b az bC=>(AV bC).elim (hw b az).2 fun h=>Nat.ne_of_lt (z' b az) h,fun b az=>(I.fresh (hw b az).1).2,fun b az bC=>Nat.lt_irrefl _ (Nat.lt_of_succ_lt (List.mem_singleton.mp bC▸z' b az)),fun bC=>Nat.lt_irrefl _ (Nat.lt_of_succ_lt (z' _ bC)),
   fun b az v aU=>OU (it.alive 0 _ xM b az) aU,fun b az o e=>v_ (it.alive 0 _ xM b az) e⟩
 have cL:(cy++[s1.heap.objs.size])[H1.length]?=some s1.heap.objs.size:=br.lX
 have loop:codeAny (model c.prog c.w) A (.compLoop (.ListComp elt [⟨cg,iter,ifs,0⟩] scope pos) 0 (.ref yi) (.ref s1.heap.objs.size) (compEnvC scope cl (s1.heap.objs.size+1) fr.env)) (compPost (model c.prog c.w) A E use Q (.ref s1.heap.objs.size) (s1.heap.objs.size+1)) {s1 with heap:=a7,toks:=s1.toks+0}:=by
  refine M5 (DK co aL) it bg hi he kx 0 _ _ _ _ _ xM (aC.step br Kh bl) Ms (M9 co aL I F tK.2 Kg h5 FU PP (I.fresh z4).2) cL aG ah A a _ fun aw ba s' yr eL=> ?_
  obtain⟨m',kB,_⟩:=yr.f.loc
  refine q aw s' _ ((show H'=aG from congrArg Prod.snd e)▸yr.h) (Step.less (Kg.weaken.trans eL) fun b az=> .inr ((List.mem_append.mp az).elim (fun h=>(hw b h).1) fun h=>List.mem_singleton.mp h▸z4)) ((show v= .loc H1.length from congrArg Prod.fst e)▸⟨_,rfl,eL.lk _ _ cL⟩) _ z4 (yr.f.own _ List.mem_cons_self).1 ⟨m',kB⟩
 exact codeAny_compStart_list loop (it.self 0 A _ _ _ xM loop)
end
theorem jY{iter cg elt:Expr}{ifs:List Expr}{scope:Scope}{pos:Pos}{caps:List (Nat×Nat)}{D:fH}{T:V→aN→ao→Option aN}{Ti:cK}{De:a0}(co:nR nm c2 caps scope)(tY:ph c nm k iter cg D)(bg:n7 c c2 k cg T)
 (hi:qU c c2 k ifs Ti) (he:bA c c2 k elt De) (aY:∀env x,foldedSetIterable iter env x=pure x:=by intro _ _;rfl):bA c nm (k+1) (.ListComp elt [⟨cg,iter,ifs,0⟩] scope pos) (ef caps D T Ti De):=by
 intro fr aL J σ H s I F v H' d A a Q E q
 rw[eval_ListComp]
 refine JX co tY bg hi he aY aL I F d a fun aw s' w c4 eL da C c9 wm hm=>hm.elim fun m hm=>⟨m,hm,fun cj tW=> ?_⟩
 have wE:∀b∈[C],∀o,s'.heap.get? b=some o→¬fi o:=fX fun o e=>I4 hm e
 have aB:∀b o,b∉[C]→s'.heap.get? b=some o→cj.get? b=some o:=iY fun b az o e=>(tW.2 b az).trans e
 have hz:s'.heap.objs.size≤cj.objs.size:=Nat.le_of_eq tW.1.symm
 have fR:Step [C] aw aw s' {s' with heap:=cj,toks:=s'.toks}:=Step.other aB hz (fun b az=>az)
 exact q aw _ w (c4.other (wr:=[C]) (t:=s'.toks) (fX wm) (fX (I.fresh c9).2) wE aB hz) (Step.less (eL.weaken.trans fR) (fX (.inr c9))) (aC.mono (fun a o e f=>aB a o (fun az=>wE a az o e f) e) (fun _ _ e=>e) _ da)
theorem J5{i:Nat}{x:Str}{jw pos Ke:Pos}{iter cg elt:Expr}{ifs:List Expr}{scope:Scope}{caps:List (Nat×Nat)}{D:fH}{T:V→aN→ao→Option aN}{Ti:cK}{De:a0}(co:nR nm c2 caps scope)(tY:ph c nm k iter cg D)(bg:n7 c c2 k cg T)
 (hi:qU c c2 k ifs Ti) (he:bA c c2 k elt De) (af:nm[i]?=some (x, .local)) (au:(jw.line==pos.line)=true) (wF:(c2.any fun(n,k)=>n==x&&(k== .local||k== .cell))=false)
 (aY:∀env x,foldedSetIterable iter env x=pure x:=by intro _ _;rfl):
 eC c nm (k+1) (.Assign [.Name x jw] (.ListComp elt [⟨cg,iter,ifs,0⟩] scope pos) Ke) (bT i (ef caps D T Ti De)):=by
 intro fr aL J σ H s I a3 ba H' d A a Q E q
 refine dp d fun v H1 ag e=> ?_
 have z9:swapsWith (.ListComp elt [⟨cg,iter,ifs,0⟩] scope pos) (some (.Name x jw)) Ke.line fr.env=pure true:=by
  unfold swapsWith
  show(pure (fr.env.blockKind== .function&&fr.env.kindOf x==some .local&&jw.line==pos.line&& !(scope.names.any fun(n,k)=>n==x&&(k== .local||k== .cell))):Sem Bool)=_
  have az:fr.env.blockKind= .function:=by unfold Env.blockKind;rw[aL.kind];rfl
  rw[az,aL.lc x (lookup_at co.bk af),au,co.names,wF];rfl
 rw[exec_Assign_Name_used _ _ _ _ z9]
 refine wpAny_bind (wpAny_standAt (wpAny_bind ?_))
 show wpAny _ A (do let _←comprehension (.ListComp elt [⟨cg,iter,ifs,0⟩] scope pos) scope fr.env _ (newList []) false (eval iter fr.env) (some (assign (.Name x jw) fr.env))) _ _ s
 refine wpAny_bind (wpAny_mono (JX co tY bg hi he aY aL I.h I.f ag a (E:=E) (use:=some (assign (.Name x jw) fr.env)) (Q:=fun _ s'=>Q .next s') fun aw s' w c4 eL da C c9 wm hm=> ?_) (fun _ s' bC=>wpAny_pure (wpAny_pure bC)) fun _ _ e=>e)
 obtain⟨m,hm⟩:=hm
 refine wpAny_assign_Name (sf aL co.bk af (.inl rfl) (I.step c4 eL) da fun eA LW sd=> ?_)
 have zK:C∉fr.own:=fun bC=>by
  obtain⟨_,_,o,aT,_⟩:=I.f.own C bC
  exact absurd (Heap.lt_size aT) (Nat.not_lt.mpr c9)
 have zW:eA.heap.Ns C m:=Ns.of_get hm fun o e=>sd.ey C o e wm zK
 refine⟨m,zW,fun cj tW=> ?_⟩
 have X:k6 c fr aw [C] eA.heap:=⟨fX wm,fX (I.h.fresh c9).2,fX zK,fun bC=>zK (List.mem_singleton.mp bC▸I.n.L),fX fun v aU=>Ns.xg zW aU rfl,fX fun o e=>I4 zW e⟩
 have aB:∀b o,b∉[C]→eA.heap.get? b=some o→cj.get? b=some o:=iY fun b az o e=>(tW.2 b az).trans e
 have hz:eA.heap.objs.size≤cj.objs.size:=Nat.le_of_eq tW.1.symm
 have fR:Step [C] aw aw eA {eA with heap:=cj,toks:=eA.toks}:=Step.other aB hz (fun b az=>az)
 exact f6.of e q aw _ _ (LW.other (t:=eA.toks) X aB hz) (Step.less ((eL.weaken (own:=[C]++fr.own)).trans (sd.more fun b az=>List.mem_append_right _ az)|>.trans (fR.more fun b az=>List.mem_append_left _ az)) fun b az=>(List.mem_append.mp az).elim (fun h=> .inr (List.mem_singleton.mp h▸c9)) .inl) rfl
end
set_option genInjectivity false in
set_option genSizeOf false in
structure kZ(c:a9)(K:Type) [DecidableEq K]where
 knd:PySem.KeyKind c.prog c.w K
 obj:List (K×V)→aM
 val:K→V
 nil:aM→Bool
 to:∀{h J o ps},hB c h J o (obj ps)→∃av n,o=df av n∧g7 knd h J ps av∧(ps.map (·.1)).Nodup
 of:∀{h J ps av n},g7 knd h J ps av→(ps.map (·.1)).Nodup→hB c h J (df av n) (obj ps)
 is:∀{h J k w},aC h J (val k) w→knd.is k w=true
 nil_eq:∀{m},nil m=true→m=obj []
noncomputable def Hq:aM→Bool| .aS ps=>ps.isEmpty|_=>false
noncomputable def Hp:aM→Bool| .eI ps=>ps.isEmpty|_=>false
noncomputable def og(c:a9):kZ c Str where
 knd:=PySem.strKind c.prog c.w
 obj:= .aS
 val:= .str
 nil:=Hq
 to:=fun h=>h.elim fun av h=>h.elim fun n h=>⟨av,n,h.1,h.2.1.toG,h.2.2⟩
 of:=fun g d=>⟨_,_,rfl,g.toS,d⟩
 is:=fun{h J k w} r=>r.ff (G:=fun w=>(PySem.strKind c.prog c.w).is k w=true) fun t=>strKind_is _ _ _ _
 nil_eq:=fun{m} e=>by
  cases m with
  |aS ps=>exact congrArg _ (List.isEmpty_iff.mp e)
  |_=>exact nomatch e
noncomputable def tj(c:a9):kZ c Int where
 knd:=PySem.intKind c.prog c.w
 obj:= .eI
 val:= .int
 nil:=Hp
 to:=fun h=>h.elim fun av h=>h.elim fun n h=>⟨av,n,h.1,h.2.1.toG,h.2.2⟩
 of:=fun g d=>⟨_,_,rfl,g.Ky,d⟩
 is:=fun{h J k w} r=>r.fM (G:=fun w=>(PySem.intKind c.prog c.w).is k w=true) fun t=>beq_self_eq_true k
 nil_eq:=fun{m} e=>by
  cases m with
  |eI ps=>exact congrArg _ (List.isEmpty_iff.mp e)
  |_=>exact nomatch e
noncomputable def putAll{K:Type} [DecidableEq K]:List (K×V)→List (K×V)→List (K×V)
 |acc,[]=>acc
 |acc,(x,v)::r=>putAll (b0 x v acc) r
noncomputable def kq(m:aM):a0:=fun _ H=>some (.loc H.length,H++[m])
section
variable{c:a9}{nm:a5}{k:Nat}
theorem BQ{pos:Pos}{m:aM}(hm:∀h J,hB c h J (df [] 0) m):bA c nm k (.Dict [] [] pos) (kq m):=by
 intro fr aL J σ H s I F v H' d A a Q E q
 have N:=I.alloc (o:=df [] 0) (m:=m) (t:=s.toks) (hm _ _)
 exact wpAny_Dict_empty (KE.of d q _ _ _ N.1 N.2 ⟨_,rfl,I.lX⟩)
theorem xC{pos:Pos}:bA c nm k (.Dict [] [] pos) (kq (.aS [])):=BQ fun _ _=>⟨[],0,rfl,rfl, .nil⟩
theorem VQ{pos:Pos}:bA c nm k (.Dict [] [] pos) (kq (.gd [])):=BQ fun _ _=>⟨[],0,rfl,rfl, .nil⟩
theorem VR{pos:Pos}:bA c nm k (.Dict [] [] pos) (kq (.gI [])):=BQ fun _ _=>⟨[],0,rfl,rfl, .nil⟩
variable{K:Type} [DecidableEq K]
theorem Pg{A:Around}{E:Value→Shared→Prop}{s:Shared}{prog:Program}{w:World}{J:List Addr}{knd:PySem.KeyKind prog w K}{d:Addr}{av:List DictEntry}{n:Nat}{ps:List (K×V)}{k:K}{key u:Value}{v:V}{Q:Unit→Shared→Prop}(nd:knd.is k key=true)(hd:s.heap.get? d=some (df av n))(g:g7 knd s.heap J ps av)
 (bk:(ps.map (·.1)).Nodup) (hz:ps.length≤1000) (r:aC s.heap J v u)
 (q:∀ax d_ fP,Heap.SameBut d s.heap ax→ax.get? d=some (df d_ fP)→g7 knd s.heap J (b0 k v ps) d_→Q () {s with heap:=ax,toks:=s.toks+1}):wpAny (model prog w) A (dictSet d key u) Q E s:=by
 obtain⟨kvs,g⟩:=g.of
 exact wpAny_dictSet_pairs nd (g.dict hd bk) (fun ax kB aY=>g.after bk r kB fun d_ ep aT lq=>q ax d_ ep aY aT lq) (g.room hz)
theorem aX.D3{A:Around}{E:Value→Shared→Prop}{s:Shared}{J:List Addr}{H:ao}(dk:kZ c K)(I:aX c J H s){l:Nat}{d:Addr}{ps:List (K×V)}(hd:J[l]?=some d)(au:H[l]?=some (dk.obj ps))(hz:ps.length≤1000){x:K}{key u:Value}{v:V}(aB:dk.knd.is x key=true)(r:aC s.heap J v u)
 {Q:Unit→Shared→Prop} (q:∀s',aX c J (H.set l (dk.obj (b0 x v ps))) s'→Step [] J J s s'→Q () s'):wpAny (model c.prog c.w) A (dictSet d key u) Q E s:=by
 refine I.mh hd au fun o ah aE=> ?_
 obtain⟨av,n,rfl,g,bk⟩:=dk.to aE
 exact Pg aB ah g bk hz r fun ax d_ fP aY fA lq=>I.qx (t:=s.toks+1) rfl hd q aY fA (dk.of lq (pI bk))
inductive iO(dk:kZ c K)(nm:a5)(k:Nat):List (Option Expr)→List K→Prop
 |nil:iO dk nm k [] []
 |cons {e:Expr} {x:K} {av:List (Option Expr)} {xs:List K}:bA c nm k e (aj (dk.val x))→iO dk nm k av xs→iO dk nm k (some e::av) (x::xs)
theorem iO.some{dk:kZ c K}{ks:List (Option Expr)}{xs:List K}(h:iO dk nm k ks xs):ks.all (·.isSome)=true∧ks.length=xs.length:=by
 induction h with
 |nil=>exact⟨rfl,rfl⟩
 |cons _ _ aK=>exact⟨aK.1,congrArg (· +1) aK.2⟩
noncomputable def o_(dk:kZ c K)(h:Heap)(J:List Addr):List (K×V)→List (Value×Value)→Prop
 |[],ws=>ws=[]
 |(x,v)::ps,ws=>∃kw uV r,ws=(kw,uV)::r∧dk.knd.is x kw=true∧aC h J v uV∧o_ dk h J ps r
theorem o_.step{dk:kZ c K}{J aw:List Addr}{H:ao}{s s':Shared}(I:aX c J H s)(st:Step [] J aw s s'){ps:List (K×V)}:∀{ws:List (Value×Value)},o_ dk s.heap J ps ws→o_ dk s'.heap aw ps ws:=by
 induction ps with
 |nil=>exact id
 |cons p ps aK=>rintro ws ⟨kw,uV,r,e,aB,aR,aZ⟩;exact⟨kw,uV,r,e,aB,aR.step I st,aK aZ⟩
theorem VT{dk:kZ c K}{fr:cX}(aL:dw nm fr){pos:Pos}:∀{keys:List (Option Expr)} {xs:List K} {values:List Expr} {bb:List a0},iO dk nm k keys xs→kj c nm k values bb→xs.length=bb.length→∀{J:List Addr} {σ:aN} {H:ao} {s:Shared},aX c J H s→dm c nm fr J σ s→
 ∀{vs H'},eH bb σ H=some (vs,H')→∀{A:Around},cz k A→∀{Q:List (Value×Value)→Shared→Prop} {E:Value→Shared→Prop},(∀aw s' ws,aX c aw H' s'→dm c nm fr aw σ s'→Step [] J aw s s'→o_ dk s'.heap aw (xs.zip vs) ws→Q ws s')→
  wpAny (model c.prog c.w) A (evalPairs (pairTrees keys values fr.env pos)) Q E s:=by
 intro keys xs values bb aB
 induction aB generalizing values bb with
 |nil=>
  intro aR au J σ H s I F vs H' d A a Q E q
  cases aR with
  |nil=>exact lK d fun e aR=>pairTrees_nil_walk (q J s [] (e▸I) F .refl rfl)
  |cons _ _=>exact nomatch au
 | @cons e x av xs ag ah aK=>
  intro aR au J σ H s I F vs H' d A a Q E q
  cases aR with
  |nil=>exact nomatch au
  | @cons Yr Ys D bb aE a7=>
   exact DV d fun v H1 us cL pN aR=>pairTrees_cons_walk (ag.at aL I F rfl a fun cy s1 c1 br dO bo bl=>aE.at aL br dO cL a fun ct s2 dE bx eO bB bN=>aK a7 (Nat.succ.inj au) bx eO pN a fun ec s3 ws c0 jE cB fq=>
    q ec s3 _ c0 jE ((bo.trans bB).trans cB) (aR▸⟨c1,dE,ws,rfl,dk.is bl,bN.step bx cB,fq⟩))
theorem JS{α:Type}{l:List α}{i:Nat}{a:α}(h:l[i]?=some a):l.set i a=l:=by
 obtain⟨ag,ah⟩:=List.getElem?_eq_some_iff.mp h
 exact ah▸List.set_getElem_self ag
theorem JR{α:Type}{l:List α}{i:Nat}{a b:α}(h:l[i]?=some a):(l.set i b)[i]?=some b:=List.getElem?_set_self (List.getElem?_eq_some_iff.mp h).1
theorem UA{x:K}{v:V}{ps qs:List (K×V)}(hz:ps.length+(qs.length+1)≤1000):ps.length≤1000∧(b0 x v ps).length+qs.length≤1000:=
 ⟨Nat.le_trans (Nat.le_add_right ..) hz,Nat.le_trans (Nat.add_le_add_right (l7 x v ps) _) (by rw[Nat.add_right_comm,Nat.add_assoc];exact hz)⟩
theorem J7{dk:kZ c K}{A:Around}{E:Value→Shared→Prop}{l:Nat}{d:Addr}{qs:List (K×V)}:∀{ws:List (Value×Value)} {ps:List (K×V)} {J:List Addr} {H:ao} {s:Shared},aX c J H s→J[l]?=some d→H[l]?=some (dk.obj ps)→ps.length+qs.length≤1000→o_ dk s.heap J qs ws→
 ∀{Q:PUnit→Shared→Prop},(∀s',aX c J (H.set l (dk.obj (putAll ps qs))) s'→Step [] J J s s'→Q PUnit.unit s')→wpAny (model c.prog c.w) A (storeAll d ws) Q E s:=by
 induction qs with
 |nil=>
  intro ws ps J H s I hd au hz aH Q q
  rw[show ws=[]from aH]
  unfold storeAll
  rw[List.forIn_nil]
  exact wpAny_pure (q s ((JS au).symm▸I) .refl)
 |cons p qs aK=>
  rintro _ ps J H s I hd au hz ⟨kw,uV,r,rfl,aB,aR,aZ⟩ Q q
  unfold storeAll
  rw[List.forIn_cons]
  have hz:=UA (x:=p.1) (v:=p.2) hz
  exact wpAny_bind (wpAny_bind (aX.D3 dk I hd au hz.1 aB aR fun s1 br bo=>wpAny_pure (aK br hd (JR au) hz.2 (aZ.step I bo) (Q:=Q) fun s2 bx bB=>q s2 (List.set_set .. ▸bx) (bo.trans bB))))
noncomputable def yZ{K:Type} [DecidableEq K](obj:List (K×V)→aM)(nil:aM→Bool)(xs:List K)(bb:List a0):a0:=fun σ H=>(eH bb σ (H++[obj []])).bind fun p=>(p.2[H.length]?).bind fun m=>if nil m=true then some (.loc H.length,p.2.set H.length (obj (putAll [] (xs.zip p.1))))else none
noncomputable def Nj{c:a9}(dk:kZ c K)(xs:List K)(bb:List a0):a0:=yZ dk.obj dk.nil xs bb
theorem JY(dk:kZ c K){keys:List (Option Expr)}{values:List Expr}{pos:Pos}{xs:List K}{bb:List a0}(aB:iO dk nm k keys xs)(aR:kj c nm k values bb)(au:xs.length=bb.length)(ng:keys.length=values.length)(h0:keys≠[])(hlen:keys.length≤15):
 bA c nm k (.Dict keys values pos) (Nj dk xs bb):=by
 intro fr aL J σ H s I F v H' d A a Q E q
 refine bQ d fun p fm d=>bQ d fun m hm d=>c3 d fun aD e=>wpAny_Dict_any aB.some.1 ng h0 hlen ?_
 obtain rfl:=dk.nil_eq aD
 have N:=I.alloc (o:=df [] 0) (m:=dk.obj []) (t:=s.toks) (dk.of rfl .nil)
 refine VT (vs:=p.1) (H':=p.2) aL aB aR au N.1 (F.step I N.2) fm a fun ct s2 ws bx eO bB bN=> ?_
 have hz:(xs.zip p.1).length≤15:=by rw[List.length_zip];exact Nat.le_trans (Nat.min_le_left ..) (aB.some.2▸hlen)
 exact J7 bx (bB.lk _ _ I.lX) hm (Nat.le_trans (Nat.le_of_eq (Nat.zero_add _)) (Nat.le_trans hz (by decide))) bN fun s3 c0 cB=>KE.of e q ct s3 _ c0 ((N.2.trans bB).trans cB) ⟨_,rfl,bB.lk _ _ I.lX⟩
noncomputable def DT(xs:List Str)(bb:List a0):a0:=yZ .aS Hq xs bb
noncomputable def DS(xs:List Int)(bb:List a0):a0:=yZ .eI Hp xs bb
theorem VG{keys:List (Option Expr)}{values:List Expr}{pos:Pos}{xs:List Str}{bb:List a0}(aB:iO (og c) nm k keys xs)(aR:kj c nm k values bb)(au:xs.length=bb.length:=by rfl)(ng:keys.length=values.length:=by rfl)(h0:keys≠[]:=by nofun)(hlen:keys.length≤15:=by decide):
 bA c nm k (.Dict keys values pos) (DT xs bb):=JY (og c) aB aR au ng h0 hlen
theorem VF{keys:List (Option Expr)}{values:List Expr}{pos:Pos}{xs:List Int}{bb:List a0}(aB:iO (tj c) nm k keys xs)(aR:kj c nm k values bb)(au:xs.length=bb.length:=by rfl)(ng:keys.length=values.length:=by rfl)(h0:keys≠[]:=by nofun)(hlen:keys.length≤15:=by decide):
 bA c nm k (.Dict keys values pos) (DS xs bb):=JY (tj c) aB aR au ng h0 hlen
end
theorem Np{prog:Program}{w:World}{K:Type} [DecidableEq K]{knd:PySem.KeyKind prog w K}{A:Around}{E:Value→Shared→Prop}{s:Shared}{d:Addr}{kvs:List (K×Value)}{k:K}{key v:Value}{Q:Unit→Shared→Prop}(nd:knd.is k key=true)(hm:s.heap.DictOf knd d kvs)
 (iV:∀ax,ax.DictOf knd d (stored kvs k v)→Heap.SameBut d s.heap ax→Q () {s with heap:=ax})
 (iW:kvs.length≤sizeLine):wpAny (model prog w) A (dictPut d (knd.hash k) key v) Q E s:=by
 obtain⟨o,av,ep,aT,aU,hd,aB,aH,aD⟩:=hm
 have QA:av.size≤sizeLine:=by
  have ak:=aH.length
  have bW:av.toList.length=av.size:=by simp
  omega
 unfold dictPut
 refine wpAny_bind (wpAny_dictFind_of nd aT hd aB ?_)
 have tQ:(av.findIdx? fun e=>knd.is k e.key)=kvs.findIdx? fun nq=>decide (nq.1=k):=by
  rw[←aH.findIdx k];obtain⟨l⟩:=av;simp
 cases hi:av.findIdx? fun e=>knd.is k e.key with
 |some i=>
  refine wpAny_updateDict aT hd (iV _ ⟨_,_,ep,Heap.get?_update_self _ aT (Obj.isFreed_of_dict (Obj.data_mapDict hd _)),
   aU.mapDict _,Obj.data_mapDict hd _,aB.modify _ _,?_,?_⟩ (Heap.SameBut.update ..))
  ·rw[stored,if_pos (any_of_findIdx_some (tQ▸hi))]
   have au:(av.toList.findIdx? fun e=>knd.is k e.key)=some i:=by rw[←hi];obtain⟨l⟩:=av;simp
   have:=aH.modify aD au v
   obtain⟨l⟩:=av
   simpa using this
  ·rw[stored,if_pos (any_of_findIdx_some (tQ▸hi)),keys_map_store];exact aD
 |none=>
  have FT:k∉kvs.map (·.1):=not_mem_of_findIdx_none (tQ▸hi)
  have Fq:¬(kvs.any fun nq=>decide (nq.1=k))=true:=by
   rw[List.any_eq_true];rintro⟨nq,QV,he⟩
   exact FT (List.mem_map.mpr ⟨nq,QV,of_decide_eq_true he⟩)
  refine wpAny_updateDictKeys (hz:=QA) aT hd (iV _ ⟨_,_,ep+1,Heap.get?_update_self _ aT (Obj.isFreed_of_dict (Obj.data_mapDictKeys hd _)),
   aU.mapDictKeys _,Obj.data_mapDictKeys hd _,aB.push nd _,?_,?_⟩ (Heap.SameBut.update ..))
  ·rw[stored,if_neg Fq]
   have:=aH.append nd (knd.hash k) v
   obtain⟨l⟩:=av
   simpa using this
  ·rw[stored,if_neg Fq,List.map_append,List.nodup_append]
   refine⟨aD,by simp,?_⟩
   intro a aP b az
   simp only[List.map_cons,List.map_nil,List.mem_singleton] at az
   subst az
   exact fun e=>FT (e▸aP)
section
variable{c:a9}{nm:a5}{k:Nat}
theorem aX.dput{A:Around}{E:Value→Shared→Prop}{s:Shared}{J:List Addr}{H:ao}(I:aX c J H s){l:Nat}{d:Addr}{ps:List (Str×V)}(hd:J[l]?=some d)(au:H[l]?=some (.aS ps))(hz:ps.length≤1000){x:Str}{t:Tok}{u:Value}{v:V}(r:aC s.heap J v u)
 {Q:Unit→Shared→Prop} (q:∀s',aX c J (H.set l (.aS (b0 x v ps))) s'→Step [] J J s s'→Heap.SameBut d s.heap s'.heap→Q () s'):wpAny (model c.prog c.w) A (dictPut d (hashStr c.w x) (.str x t) u) Q E s:=by
 refine I.ql hd au fun av n ah g bk=>((fl.toG (prog:=c.prog) g).of).elim fun kvs g=> ?_
 exact Np (knd:=PySem.strKind c.prog c.w) (k:=x) (strKind_is c.prog c.w x t) (g.dict ah bk) (fun ax kB aY=>g.after bk r kB fun d_ ep aT lq=>I.qx (Q:=fun _ s'=>Heap.SameBut d s.heap s'.heap→Q () s') (t:=s.toks) rfl hd q aY aT ⟨_,_,rfl,lq.toS,pI bk⟩ aY) (g.room hz)
noncomputable def C'(c:a9)(t:Sem Value)(x:Str):Prop:=∀(A:Around) (s:Shared) (Q:Value→Shared→Prop) (E:Value→Shared→Prop),(∀bt sj,Q (.str x bt) {s with toks:=sj})→wpAny (model c.prog c.w) A t Q E s
inductive g_(c:a9):List (Sem Value×Sem Value)→List (Str×Str)→Prop
 |nil:g_ c [] []
 |cons {a b:Sem Value} {x y:Str} {be:List (Sem Value×Sem Value)} {ps:List (Str×Str)}:C' c a x→C' c b y→g_ c be ps→g_ c ((a,b)::be) ((x,y)::ps)
theorem g_.length{be:List (Sem Value×Sem Value)}{ps:List (Str×Str)}(h:g_ c be ps):be.length=ps.length:=by
 induction h with
 |nil=>rfl
 |cons _ _ _ aK=>exact congrArg (· +1) aK
theorem g_.append{be KF:List (Sem Value×Sem Value)}{ps Jf:List (Str×Str)}(h:g_ c be ps)(ax:g_ c KF Jf):g_ c (be++KF) (ps++Jf):=by
 induction h with
 |nil=>exact ax
 |cons a b _ aK=>exact .cons a b aK
noncomputable def il(ps:List (Str×Str)):List (Str×V):=ps.map fun p=>(p.1, .str p.2)
theorem Ol{A:Around}{E:Value→Shared→Prop}{be:List (Sem Value×Sem Value)}{ps:List (Str×Str)}(T:g_ c be ps):∀{s:Shared} {Q:List (Value×Value)→Shared→Prop},
 (∀ws bt,(∀h J,o_ (og c) h J (il ps) ws)→Q ws {s with toks:=bt})→wpAny (model c.prog c.w) A (evalPairs be) Q E s:=by
 induction T with
 |nil=>intro s Q q;exact evalPairs_nil (q [] s.toks fun _ _=>rfl)
 | @cons a b x y be ps aP az _ aK=>
  intro s Q q
  refine evalPairs_cons (aP A _ _ _ fun t1 k1=>az A _ _ _ fun gL k2=>aK fun ws bt Ab=> ?_)
  exact q _ bt fun h J=>⟨_,_,ws,rfl,strKind_is _ _ _ _, .mkStr,Ab h J⟩
theorem Ka{α:Type}{l:List α}{a b:α}:(l++[a]).set l.length b=l++[b]:=by rw[List.set_append_right _ _ (Nat.le_refl _),Nat.sub_self];rfl
theorem BX{α:Type}{l:List α}{a:α}:(l++[a])[l.length]?=some a:=List.getElem?_concat_length
theorem Bv{K:Type} [DecidableEq K](qs:List (K×V)):∀acc:List (K×V),(putAll acc qs).length≤acc.length+qs.length:=by
 induction qs with
 |nil=>exact fun acc=>Nat.le_refl _
 |cons p qs aK=>exact fun acc=>Nat.le_trans (aK _) (Nat.le_trans (Nat.add_le_add_right (l7 p.1 p.2 acc) _) (by rw[List.length_cons,Nat.add_right_comm,Nat.add_assoc];exact Nat.le_refl _))
theorem Jh{K:Type} [DecidableEq K](qs rs:List (K×V)):∀acc:List (K×V),putAll acc (qs++rs)=putAll (putAll acc qs) rs:=by
 induction qs with
 |nil=>exact fun _=>rfl
 |cons p qs aK=>exact fun acc=>aK _
theorem Ci{ps:List (Str×Str)}:(putAll [] (il ps)).length≤ps.length:=Nat.le_trans (Bv _ _) (Nat.le_of_eq ((Nat.zero_add _).trans (List.length_map _)))
theorem Wg{A:Around}{E:Value→Shared→Prop}{be:List (Sem Value×Sem Value)}{ps:List (Str×Str)}{J u0:List Addr}{H:ao}{s:Shared}{d:Addr}(hd:J[H.length]?=some d)(T:g_ c be ps):∀{qs:List (Str×Str)} {s1:Shared},qs.length+ps.length≤900→
 aX c J (H++[.aS (putAll [] (il qs))]) s1→Step [] u0 J s s1→∀{Q:PUnit→Shared→Prop},(∀s',aX c J (H++[.aS (putAll [] (il (qs++ps)))]) s'→Step [] u0 J s s'→Q PUnit.unit s')→
 wpAny (model c.prog c.w) A (forIn be PUnit.unit fun(x:Sem Value×Sem Value) (_:PUnit)=>(do
  let nq←x.1
  let K4←holding [nq] x.2
  holding [nq,K4] (dictSet d nq K4)
  pure (ForInStep.yield PUnit.unit):Sem (ForInStep PUnit))) Q E s1:=by
 induction T with
 |nil=>intro qs s1 _ br bo Q q;rw[List.forIn_nil];rw[List.append_nil] at q;exact wpAny_pure (q s1 br bo)
 | @cons a b x y be ps aP az _ aK=>
  intro qs s1 hz br bo Q q
  rw[List.forIn_cons]
  refine wpAny_bind (wpAny_bind (aP A _ _ _ fun t1 k1=>wpAny_bind (wpAny_holding (az A _ _ _ fun gL k2=>wpAny_bind (wpAny_holding ?_)))))
  refine aX.D3 (og c) ((br.toks (t:=k1)).toks (t:=k2)) hd BX (Nat.le_trans Ci (Nat.le_trans (Nat.le_trans (Nat.le_add_right ..) hz) (by decide))) (x:=x) (v:= .str y) (strKind_is _ _ _ _) .mkStr fun s2 bx bB=>wpAny_pure ?_
  have e:putAll [] (il (qs++[(x,y)]))=b0 x (.str y) (putAll [] (il qs)):=by
   unfold il
   rw[List.map_append]
   exact Jh _ _ _
  refine aK (qs:=qs++[(x,y)]) (by rw[List.length_append,Nat.add_assoc,Nat.add_comm [(x,y)].length];exact hz) ?_ ((bo.trans .toks).trans bB) fun s' c4 eL=>q s' ?_ eL
  ·rw[Ka] at bx;rw[e];exact bx
  ·rw[List.append_assoc] at c4;exact c4
theorem Km{A:Around}{E:Value→Shared→Prop}{be:List (Sem Value×Sem Value)}{ps:List (Str×Str)}(T:g_ c be ps)(hz:ps.length≤900){J:List Addr}{H:ao}{s:Shared}(I:aX c J H s){Q:Addr→Shared→Prop}
 (q:∀s',aX c (J++[s.heap.objs.size]) (H++[.aS (putAll [] (il ps))]) s'→Step [] J (J++[s.heap.objs.size]) s s'→Q s.heap.objs.size s'):wpAny (model c.prog c.w) A (subDict be) Q E s:=by
 have N:=I.alloc (o:=df [] 0) (m:= .aS []) (t:=s.toks) ⟨[],0,rfl,rfl, .nil⟩
 unfold subDict
 refine wpAny_bind (wpAny_alloc (wpAny_bind (wpAny_holding ?_)))
 show wpAny _ _ _ _ _ {s with heap:=s.heap.push (df [] 0)}
 split
 ·refine wpAny_bind (Ol T fun ws bt Ab=>wpAny_holding (wpAny_bind (J7 (dk:=og c) (N.1.toks (t:=bt)) I.lX BX ?_ (Ab _ _) fun s2 bx bB=>wpAny_pure (wpAny_pure (q s2 ?_ ((N.2.trans .toks).trans bB))))))
  ·exact Nat.le_trans (Nat.le_of_eq ((Nat.zero_add _).trans (List.length_map _))) (Nat.le_trans hz (by decide))
  ·rw[Ka] at bx;exact bx
 ·exact wpAny_bind (wpAny_rule (wpAny_bind (Wg I.lX T (qs:=[]) (s1:={s with heap:=s.heap.push (df [] 0)}) ((Nat.zero_add _).symm▸hz) N.1 N.2 fun s2 bx bB=>wpAny_pure (wpAny_pure (q s2 bx bB)))))
end
section
variable{c:a9}
theorem Vj{w:World}{h:Heap}{J:List Addr}{x:Str}{v:V}{G:Prop}{ps:List (Str×V)}:∀{av:List DictEntry} {i:Nat},fl w h J ps av→ps[i]?=some (x,v)→(∀t u,av[i]?=some ⟨hashStr w x, .str x t,u⟩→aC h J v u→G)→G:=by
 induction ps with
 |nil=>exact fun _ hi _=>cn hi
 |cons p ps aK=>
  rintro av i ⟨t,fG,r,rfl,a,b⟩ hi k
  cases i with
  |zero=>obtain rfl:=Option.some.inj hi;exact k t fG rfl a
  |succ i=>exact aK (i:=i) b hi k
theorem S'{A:Around}{E:Value→Shared→Prop}{J:List Addr}{H:ao}{s:Shared}(dG:J.Nodup){l m:Nat}{d g:Addr}{P R:List (Str×V)}(hd:J[l]?=some d)(au:H[l]?=some (.aS P))(b6:J[m]?=some g)(hm:H[m]?=some (.aS R))(ry:l≠m)(hz:P.length+R.length≤900){pA:List DictEntry}{w9:Nat}{f:Nat→PUnit→Sem (ForInStep PUnit)}
 (hf:∀(i:Nat) (s1:Shared) (e:DictEntry),s1.heap.get? g=some (df pA w9)→pA.toArray[i]?=some e→∀(Q:ForInStep PUnit→Shared→Prop),wpAny (model c.prog c.w) A (dictPut d e.hash e.key e.val) (fun _ s2=>s2.heap.get? g=some (df pA w9)∧Q (.yield .unit) s2) E s1→wpAny (model c.prog c.w) A (f i PUnit.unit) Q E s1)
 {Q:PUnit→Shared→Prop} (q:∀s',aX c J (H.set l (.aS (putAll P R))) s'→Step [] J J s s'→Q PUnit.unit s') (k:Nat):
 ∀(i:Nat) (s1:Shared),i+k=R.length→aX c J (H.set l (.aS (putAll P (R.take i)))) s1→Step [] J J s s1→s1.heap.get? g=some (df pA w9)→wpAny (model c.prog c.w) A (forIn (List.range' i k) PUnit.unit f) Q E s1:=by
 induction k with
 |zero=>
  intro i s1 hi br bo pR
  rw[List.range'_zero,List.forIn_nil]
  rw[List.take_of_length_le (Nat.le_of_eq (show R.length=i from hi.symm))] at br
  exact wpAny_pure (q s1 br bo)
 |succ k aK=>
  intro i s1 hi br bo pR
  rw[List.range'_succ,List.forIn_cons]
  have af:R[i]?=some R[i]:=List.getElem?_eq_getElem (hi▸Nat.lt_add_of_pos_right (Nat.succ_pos k))
  refine br.ql b6 ((List.getElem?_set_ne ry).trans hm) fun Oj Yd Q8 PK _=> ?_
  obtain rfl:pA=Oj:=by
   have e:=congrArg Obj.data (Option.some.inj (pR.symm.trans Q8))
   injection e with e _
   injection e
  refine Vj PK af fun t u bR mn=>wpAny_bind (hf i s1 _ pR (List.getElem?_toArray.trans bR) _ ?_)
  have lA:(putAll P (R.take i)).length≤1000:=Nat.le_trans (Bv _ _) (Nat.le_trans (Nat.add_le_add_left (List.length_take_le' ..) _) (Nat.le_trans hz (by decide)))
  have tO:g≠d:=fun e=>ry ((List.getElem?_inj (List.getElem?_eq_some_iff.mp hd).1 dG).mp (hd.trans (e▸b6.symm)))
  refine br.dput hd (JR au) lA mn fun s2 bx bB F3=>⟨(F3.2 g tO).trans pR,aK (i+1) s2 ((Nat.add_right_comm i 1 k).trans hi) ?_ (bo.trans bB) ((F3.2 g tO).trans pR)⟩
  rw[List.set_set] at bx
  rw[List.take_add_one,af,Jh]
  exact bx
theorem Ta(ok:c.Ok){A:Around}{E:Value→Shared→Prop}{J:List Addr}{H:ao}{s:Shared}(I:aX c J H s){l m:Nat}{d g:Addr}{P R:List (Str×V)}(hd:J[l]?=some d)(au:H[l]?=some (.aS P))(b6:J[m]?=some g)(hm:H[m]?=some (.aS R))(ry:l≠m)
 (ow:P≠[]) (hz:P.length+R.length≤900) {Q:Unit→Shared→Prop} (q:∀s',aX c J (H.set l (.aS (putAll P R))) s'→Step [] J J s s'→Q () s'):wpAny (model c.prog c.w) A (mergeMapping d (.ref g) false) Q E s:=by
 refine I.ql hd au fun Ek bk Q7 gB Yb=>I.ql b6 hm fun pA w9 wG gU Yc=> ?_
 have c_:s.TypeIs (.ref g) "dict":=⟨_,wG,rfl⟩
 have dB:Ek.toArray.isEmpty=false:=by
  have:=gB.length
  cases Ek with
  |nil=>exact absurd (List.length_eq_zero_iff.mp this.symm) ow
  |cons _ _=>rfl
 unfold mergeMapping
 refine wpAny_bind (m:=isInstance (.ref g) (.type "dict")) (wpAny_isInstance c_ isSubtype_dict_dict ?_)
 rw[if_pos rfl]
 refine wpAny_bind (m:=specialOf (.ref g) (Str.ofString "__iter__")) (wpAny_specialOf c_ PySem.F.slot_dict_iter.lookup ?_)
 rw[show((some (Value.builtin "dict.__iter__")==some (Value.builtin "dict.__iter__")):Bool)=true from beq_self_eq_true _]
 try refine wpAny_bind (wpAny_pure ?_)
 dsimp only
 rw[qb ok I (List.mem_of_getElem? b6)]
 rw[if_neg Bool.false_ne_true]
 refine wpAny_bind (wpAny_dictEntries Q7 rfl ?_)
 rw[dB,if_neg Bool.false_ne_true]
 refine wpAny_bind (wpAny_dictEntries wG rfl (wpAny_bind (wpAny_dictEpoch wG rfl ?_)))
 rw[List.range_eq_range',show pA.toArray.size=R.length from List.size_toArray.trans gU.length]
 refine wpAny_bind (S' I.bk hd au b6 hm ry hz (fun i s1 e pR he Q bC=> ?_) (fun s' c4 eL=>wpAny_pure (q s' c4 eL)) R.length 0 s (Nat.zero_add _) ((JS au).symm▸I) .refl wG)
 refine wpAny_bind (wpAny_dictEntries pR rfl ?_)
 rw[he]
 dsimp only
 refine wpAny_bind (wpAny_holding ?_)
 rw[if_neg Bool.false_ne_true]
 refine wpAny_mono bC (fun _ s2 ah=>wpAny_bind (wpAny_dictEpoch ah.1 rfl ?_)) fun _ _ x=>x
 rw[if_neg (by simp)]
 exact wpAny_pure ah.2
end
noncomputable def w1(run:List (Str×Str))(st:Option (List (Str×V))×List aM):Option (List (Str×V))×List aM:=match st.1 with
 |none=>(some (putAll [] (il run)),st.2)
 |some P=>(some (putAll P (putAll [] (il run))),st.2++[.aS (putAll [] (il run))])
noncomputable def jU(ps:List (Str×Str)):Option (List (Str×V))×List aM→List (Str×Str)→(Option (List (Str×V))×List aM)×List (Str×Str):=match ps with
 |[]=>fun st run=>(st,run)
 |p::rest=>fun st run=>if(run++[p]).length==17 then jU rest (w1 (run++[p]) st) []else jU rest st (run++[p])
noncomputable def ma(ps:List (Str×Str)):Option (List (Str×V))×List aM:=if(jU ps (none,[]) []).2.isEmpty=true then(jU ps (none,[]) []).1 else w1 (jU ps (none,[]) []).2 (jU ps (none,[]) []).1
noncomputable def vO(ps:List (Str×Str)):a0:=fun _ H=>(ma ps).1.map fun P=>(.loc H.length,H++[.aS P]++(ma ps).2)
section
variable{c:a9}{nm:a5}{k:Nat}
inductive o7(c:a9)(J:List Addr)(H:ao)(s:Shared)(N:Nat)(s':Shared):Option Addr→Option (List (Str×V))×List aM→Prop
 |one (I:aX c J H s') (st:Step [] J J s s'):o7 c J H s N s' none (none,[])
 |more {d:Addr} {P:List (Str×V)} {fK:List aM} (ow:P≠[]) (aD:P.length≤N) (fL:List Addr) (I:aX c (J++d::fL) (H++ .aS P::fK) s') (st:Step [] J (J++d::fL) s s'):o7 c J H s N s' (some d) (some P,fK)
theorem EP{x:Str}{v:V}(ps:List (Str×V)):b0 x v ps≠[]:=by
 cases ps with
 |nil=>exact fun h=>nomatch h
 |cons p r=>
  show(if p.1=x then(p.1,v)::r else(p.1,p.2)::b0 x v r)≠[]
  split<;>exact fun h=>nomatch h
theorem Ji(qs:List (Str×V)):∀acc:List (Str×V),acc≠[]→putAll acc qs≠[]:=by
 induction qs with
 |nil=>exact fun _ h=>h
 |cons p qs aK=>exact fun acc _=>aK _ (EP acc)
structure yf(c:a9)(A:Around)(E:Value→Shared→Prop)(flush:List (Sem Value×Sem Value)→Option Addr→Sem (Option Addr)):Prop where
 nil:∀m Q s1,Q m s1→wpAny (model c.prog c.w) A (flush [] m) Q E s1
 one:∀fC Q s1,fC.isEmpty=false→wpAny (model c.prog c.w) A (subDict fC) (fun d s2=>Q (some d) s2) E s1→wpAny (model c.prog c.w) A (flush fC none) Q E s1
 more:∀fC d Q s1,fC.isEmpty=false→wpAny (model c.prog c.w) A (subDict fC) (fun g s2=>wpAny (model c.prog c.w) A (mergeMapping d (.ref g) false) (fun _ s3=>Q (some d) s3) (fun _ _=>False) s2) E s1→wpAny (model c.prog c.w) A (flush fC (some d)) Q E s1
section
variable{A:Around}{E:Value→Shared→Prop}{J:List Addr}{H:ao}{s s1:Shared}{flush:List (Sem Value×Sem Value)→Option Addr→Sem (Option Addr)}
theorem Ew(ok:c.Ok)(gS:yf c A E flush)(jO:J.length=H.length){fC:List (Sem Value×Sem Value)}{eb:List (Str×Str)}{main:Option Addr}{st:Option (List (Str×V))×List aM}{N:Nat}(T0:g_ c fC eb)(dB:eb≠[])(cb:N+eb.length≤400)(L:o7 c J H s N s1 main st)
 {Q:Option Addr→Shared→Prop} (q:∀main' s',o7 c J H s (N+eb.length) s' main' (w1 eb st)→Q main' s'):wpAny (model c.prog c.w) A (flush fC main) Q E s1:=by
 have oB:fC.isEmpty=false:=by
  cases T0 with
  |nil=>exact absurd rfl dB
  |cons _ _ _=>rfl
 have Rb:putAll [] (il eb)≠[]:=by
  cases eb with
  |nil=>exact absurd rfl dB
  |cons p eb=>exact Ji (il eb) (b0 p.1 (.str p.2) []) (EP _)
 have aZ:eb.length≤400:=Nat.le_trans (Nat.le_add_left ..) cb
 cases L with
 |one br bo=>exact gS.one _ _ _ oB (Km T0 (Nat.le_trans aZ (by decide)) br fun s2 bx bB=>q _ _ (.more Rb (Nat.le_trans Ci (Nat.le_add_left ..)) [] bx (bo.trans bB)))
 | @more d P fK ow Fo fL br bo=>
  refine gS.more _ _ _ _ oB (Km T0 (Nat.le_trans aZ (by decide)) br fun s2 bx bB=> ?_)
  have ak:J++d::fL++[s1.heap.objs.size]=J++d::(fL++[s1.heap.objs.size]):=by rw[List.append_assoc];rfl
  have bW:H++ .aS P::fK++[.aS (putAll [] (il eb))]=H++ .aS P::(fK++[.aS (putAll [] (il eb))]):=by rw[List.append_assoc];rfl
  have hd:(J++d::fL++[s1.heap.objs.size])[H.length]?=some d:=by rw[ak,←jO,List.getElem?_append_right (Nat.le_refl _),Nat.sub_self];rfl
  have au:(H++ .aS P::fK++[.aS (putAll [] (il eb))])[H.length]?=some (.aS P):=by rw[bW,List.getElem?_append_right (Nat.le_refl _),Nat.sub_self];rfl
  have ry:H.length≠(H++ .aS P::fK).length:=Nat.ne_of_lt (by rw[List.length_append,List.length_cons];exact Nat.lt_add_of_pos_right (Nat.succ_pos _))
  have lA:(putAll [] (il eb)).length≤eb.length:=Ci
  refine Ta ok bx hd au br.lX BX ry ow (Nat.le_trans (Nat.add_le_add Fo lA) (Nat.le_trans cb (by decide))) fun s3 c0 cB=>q _ _ ?_
  rw[bW,List.set_append_right _ _ (Nat.le_refl _),Nat.sub_self,ak] at c0
  rw[ak] at bB cB
  exact .more (Ji _ _ ow) (Nat.le_trans (Bv _ _) (Nat.add_le_add Fo lA)) _ c0 ((bo.trans bB).trans cB)
theorem SR(ok:c.Ok)(gS:yf c A E flush)(jO:J.length=H.length){f:(Option (Sem Value)×Sem Value)→(Option Addr×List (Sem Value×Sem Value))→Sem (ForInStep (Option Addr×List (Sem Value×Sem Value)))}
 (hf:∀a b main run s1 (Q:ForInStep (Option Addr×List (Sem Value×Sem Value))→Shared→Prop),(if((run++[(a,b)]).length==17)=true then wpAny (model c.prog c.w) A (flush (run++[(a,b)]) main) (fun m s2=>Q (.yield (m,[])) s2) E s1 else Q (.yield (main,run++[(a,b)])) s1)→wpAny (model c.prog c.w) A (f (some a,b) (main,run)) Q E s1)
 {be:List (Sem Value×Sem Value)} {ps:List (Str×Str)} (T0:g_ c be ps):∀{fC:List (Sem Value×Sem Value)} {eb:List (Str×Str)} {main:Option Addr} {st:Option (List (Str×V))×List aM} {N:Nat} {s1:Shared},g_ c fC eb→N+eb.length+ps.length≤400→o7 c J H s N s1 main st→
  ∀{Q:Option Addr×List (Sem Value×Sem Value)→Shared→Prop},(∀main' xv s' N',o7 c J H s N' s' main' (jU ps st eb).1→g_ c xv (jU ps st eb).2→N'+(jU ps st eb).2.length≤400→Q (main',xv) s')→
   wpAny (model c.prog c.w) A (forIn (be.map fun p=>(some p.1,p.2)) (main,fC) f) Q E s1:=by
 induction T0 with
 |nil=>
  intro fC eb main st N s1 yz cb L Q q
  rw[List.map_nil,List.forIn_nil]
  exact wpAny_pure (q main fC s1 N L yz cb)
 | @cons a b x y be ps aP az _ aK=>
  intro fC eb main st N s1 yz cb L Q q
  rw[List.map_cons,List.forIn_cons]
  have yA:g_ c (fC++[(a,b)]) (eb++[(x,y)]):=yz.append (.cons aP az .nil)
  have hlen:(eb++[(x,y)]).length=eb.length+1:=List.length_append
  have pM:N+(eb++[(x,y)]).length+ps.length≤400:=by rw[hlen,←Nat.add_assoc,Nat.add_assoc,Nat.add_comm 1];exact cb
  refine wpAny_bind (hf a b main fC s1 _ ?_)
  rw[yA.length]
  have e:jU ((x,y)::ps) st eb=if((eb++[(x,y)]).length==17)=true then jU ps (w1 (eb++[(x,y)]) st) []else jU ps st (eb++[(x,y)]):=rfl
  rw[e] at q
  by_cases Fe:((eb++[(x,y)]).length==17)=true
  ·rw[if_pos Fe] at q⊢
   exact Ew ok gS jO yA (fun h=>nomatch(congrArg List.length h).symm.trans hlen) (Nat.le_trans (Nat.le_add_right ..) pM) L fun main' s2 vf=>aK .nil pM vf q
  ·rw[if_neg Fe] at q⊢
   exact aK yA pM L q
end
theorem SS(ok:c.Ok){A:Around}{E:Value→Shared→Prop}{be:List (Sem Value×Sem Value)}{ps:List (Str×Str)}(T:g_ c be ps)(hz:ps.length≤400){J:List Addr}{H H':ao}{s:Shared}(I:aX c J H s){v:V}{σ:aN}(d:vO ps σ H=some (v,H'))
 {Q:Value→Shared→Prop} (q:∀aw s' w,aX c aw H' s'→Step [] J aw s s'→aC s'.heap aw v w→Q w s'):wpAny (model c.prog c.w) A (dictDisplay (be.map fun p=>(some p.1,p.2))) Q E s:=by
 unfold dictDisplay
 extract_lets flush X_ Yj
 have bg:∀{fC:List (Sem Value×Sem Value)},fC.isEmpty=false→¬fC.isEmpty=true:=fun h=>by rw[h];exact Bool.false_ne_true
 have gS:yf c A E flush:=by
  refine⟨fun m Q s1 h=>wpAny_pure h,fun fC Q s1 oB h=> ?_,fun fC d Q s1 oB h=> ?_⟩
  ·show wpAny _ _ (if fC.isEmpty=true then _ else _) Q E s1
   rw[if_neg (bg oB)]
   exact wpAny_bind (wpAny_mono h (fun _ _ x=>wpAny_pure x) fun _ _ x=>x)
  ·show wpAny _ _ (if fC.isEmpty=true then _ else _) Q E s1
   rw[if_neg (bg oB)]
   exact wpAny_bind (wpAny_holding (wpAny_mono h (fun _ _ x=>wpAny_bind (wpAny_onRaise (wpAny_holding (wpAny_mono x (fun _ _ x=>wpAny_pure x) fun _ _ x=>x.elim)))) fun _ _ x=>x))
 clear_value flush
 refine wpAny_bind (SR ok gS I.len (fun a b main run s1 Q bC=> ?_) T .nil ((congrArg (· +ps.length) (Nat.zero_add 0)).symm▸(Nat.zero_add _).symm▸hz) (.one (N:=0) I .refl) fun main' xv s1 N' vf qX pM=> ?_)
 ·by_cases h:((run++[(a,b)]).length==17)=true
  ·rw[if_pos h] at bC
   dsimp only
   rw[if_pos h]
   exact wpAny_bind (wpAny_mono bC (fun m s2 x=>wpAny_pure x) fun _ _ x=>x)
  ·rw[if_neg h] at bC
   dsimp only
   rw[if_neg h]
   exact wpAny_pure bC
 ·-- the last flush
  have fin:∀(main':Option Addr) (N:Nat) (s2:Shared),o7 c J H s N s2 main' (ma ps)→∃d,main'=some d∧Q (.ref d) s2:=fun main' N s2 L=>dq d fun P ow e=>by
   generalize ma ps=st at*
   cases L with
   |one _ _=>exact cn ow
   | @more dd yp fK _ _ fL c0 cB=>
    obtain rfl:=Option.some.inj ow
    exact⟨dd,rfl,KE.of (congrArg some e.symm) q _ s2 _ (by rw[List.append_assoc];exact c0) cB ⟨_,rfl,by rw[←I.len,List.getElem?_append_right (Nat.le_refl _),Nat.sub_self];rfl⟩⟩
  unfold ma at fin
  dsimp only
  generalize jU ps (none,[]) []=go at*
  by_cases fm:go.2=[]
  ·rw[if_pos (List.isEmpty_iff.mpr fm)] at fin
   have oB:xv=[]:=List.length_eq_zero_iff.mp (qX.length.trans (congrArg List.length fm))
   obtain⟨dd,rfl,iV⟩:=fin _ _ s1 vf
   rw[oB]
   exact wpAny_bind (gS.nil _ _ _ (wpAny_pure iV))
  ·rw[if_neg (fun h=>fm (List.isEmpty_iff.mp h))] at fin
   refine wpAny_bind (Ew ok gS I.len qX fm pM vf fun X' s2 yl=> ?_)
   obtain⟨dd,rfl,iV⟩:=fin _ _ s2 yl
   exact wpAny_pure iV
inductive mI:List (Option Expr)→List Expr→List (Str×Str)→Prop
 |nil:mI [] [] []
 |cons {x y:Str} {k1 k2:Nat} {dT dC:Pos} {ks:List (Option Expr)} {vs:List Expr} {ps:List (Str×Str)}:mI ks vs ps→mI (some (.Constant (.str x) k1 dT)::ks) (.Constant (.str y) k2 dC::vs) ((x,y)::ps)
theorem mI.facts{ks:List (Option Expr)}{vs:List Expr}{ps:List (Str×Str)}(h:mI ks vs ps):ks.all (·.isSome)=true∧ks.length=vs.length:=by
 induction h with
 |nil=>exact⟨rfl,rfl⟩
 |cons _ aK=>exact⟨aK.1,congrArg (· +1) aK.2⟩
theorem mI.trees{ks:List (Option Expr)}{vs:List Expr}{ps:List (Str×Str)}(h:mI ks vs ps)(env:Env)(pos:Pos):g_ c (pairTrees ks vs env pos) ps:=by
 induction h with
 |nil=>exact .nil
 |cons _ aK=>
  refine .cons (fun A s Q E q=>wpAny_Constant_str (q _ _)) (fun A s Q E q=> ?_) aK
  exact wpAny_bind (wpAny_Constant_str (wpAny_bind (wpAny_standAt (wpAny_pure (q _ _)))))
theorem VM(ok:c.Ok){keys:List (Option Expr)}{values:List Expr}{pos:Pos}{ps:List (Str×Str)}(h:mI keys values ps)(hz:ps.length≤400:=by decide):bA c nm k (.Dict keys values pos) (vO ps):=by
 intro fr aL J σ H s I F v H' d A a Q E q
 rw[arm_eval_Dict,zip_pairTrees keys values fr.env pos h.facts.1 h.facts.2]
 exact wpAny_bind (wpAny_standAt (SS ok (h.trees fr.env pos) hz I d q))
end
noncomputable abbrev hc(C t:Addr):Obj:={cls:= .ref C,data:= .fields #[.ref t, .none, .none, .none, .bool false, .none]}
noncomputable abbrev mC(vs:List Value):Obj:={cls:= .type "tuple",data:= .seq vs.toArray}
structure ExcCls(K:Frag)(C:Addr):Prop where
 at':∃nm q N bs bm hdct sn sub ab col dd k0 k1 k2 k3 k5,K.lookup C=some (excClassObj nm q C N bs bm hdct sn sub ab col dd k0 k1 k2 k3 k5 "Exception.__new__")∧
  bm.contains (.type "Exception")=true∧bm.contains (.type "AttributeError")=false∧bm.contains (.type "NameError")=false∧bm.contains (.type "BaseException")=true
 call:specialIn K (.ref C) "__call__"=some (some (.builtin "type.__call__"))
 typ:instIn K (.ref C) (.type "type")=some true
 self:mroIn K C (.ref C)=some true
 top:mroIn K C (.type "object")=some true
section
variable{prog:Program}{w:World}{A:Around}{K:Frag}{C:Addr}{R:Result→Shared→Prop}{h:Heap}{g:Array GenState}{d:Drawn}{t:Nat}{os:OsState}
variable{nm q:Str}{N:Addr}{bs bm:List Value}{hdct:Bool}{sn:List Str}{sub:List Value}{ab:Bool}{col:Option Bool}{dd:Option Addr}{k0 k1 k2 k3 k5:Option Value}
theorem Ox{rest:List Value}(c9:h.get? C=some (excClassObj nm q C N bs bm hdct sn sub ab col dd k0 k1 k2 k3 k5 "Exception.__new__"))
 (dn:bm.contains (.type "Exception")=true) (dU:bm.contains (.type "AttributeError")=false) (pk:bm.contains (.type "NameError")=false)
 (bC:R (.ok (.ret (.ref (h.objs.size+1)))) ⟨(h.push (mC rest)).push (hc C h.objs.size),g,d,t,os⟩) (F0:rest.length≤sizeLine):
 codeAny (model prog w) A (.call (.builtin "Exception.__new__") ⟨.ref C::rest,[]⟩) R ⟨h,g,d,t,os⟩:=by
 have mM:=PySem.F.excBase_Exception
 have rv:(Value.ref C::bm).contains (.type "Exception")=true:=by rw[List.contains_cons,dn,Bool.or_true]
 have Qk:(Value.ref C::bm).contains (.type "AttributeError")=false:=by rw[List.contains_cons,dU];rfl
 have Qn:(Value.ref C::bm).contains (.type "NameError")=false:=by rw[List.contains_cons,pk];rfl
 have X8:=mM.noStar
 have X3:=mM.ends
 refine codeAny_call_builtin_code (Code.quiet_builtin _ mM.quiet) ?_
 simp only[checkBuiltinCall,mM.newKind,mM.newSplit,mM.newRow]
 repeat(first|refine wpAny_loadPart_at c9 ?_|(refine wpAny_isSubtype_exc c9 ?_;rw[rv])|refine wpAny_staticBase_exc c9 ?_|refine wpAny_madeBy_exc c9 ?_|simp only[bne_self_eq_false,Bool.false_eq_true,if_false]|wp_step)
 refine codeAny_builtinAt mM.entry ?_
 unfold Builtin.«BaseException.__new__»
 refine PySem.wpAt_bind ?_
 show PySem.wpAt _ _ _ (stack>>=_) _ _ _
 refine PySem.wpAt_bind (PySem.wpAt_stack fun p below=>PySem.wpAt_of_wpAny ?_)
 wp_walk
 refine PySem.wpAt_of_wpAny ?_
 rw[mM.owner]
 repeat(first|with_reducible refine wpAny_madeHere_exc mM.canon c9 ?_|with_reducible refine wpAny_loadPart_at c9 ?_|(with_reducible refine wpAny_isSubtype_exc c9 ?_;first|rw[rv]|rw[Qk]|rw[Qn])|wp_step)
 show R _ _
 rw[Heap.size_push]
 exact bC
theorem Ow{rest:List Value}{init:Value}(X:K.In h)(Y:ExcCls K C)(hi:Looks (model prog w) h (typeLookup (.ref C) "__init__") (some init))
 (az:∀self,Looks (model prog w) h (bindSpecial init self) (init,[self])) (dB:(some init !=some (Value.builtin "object.__init__"))=true) (F0:rest.length≤sizeLine)
 (bC:codeAny (model prog w) (A.under (.builtin "type.__call__" ⟨.ref C::rest,[]⟩)) (.call init ⟨.ref (h.objs.size+1)::rest,[]⟩) (InitBack (h.objs.size+1) R) ⟨(h.push (mC rest)).push (hc C h.objs.size),g,d,t,os⟩):
 codeAny (model prog w) A (.call (.ref C) ⟨rest,[]⟩) R ⟨h,g,d,t,os⟩:=by
 obtain⟨nm,q,N,bs,bm,hdct,sn,sub,ab,col,dd,k0,k1,k2,k3,k5,tE,dn,dU,pk,oa⟩:=Y.at'
 have c9:=X _ _ tE
 have call:=looks_specialIn (M:=model prog w) X Y.call
 have typ:=looks_instIn (M:=model prog w) X Y.typ
 have self:=looks_mroIn (M:=model prog w) X Y.self
 refine codeAny_of_tree ?_
 show wpAny _ _ (callAny (.ref C) _) _ _ _
 refine nd_load c9 ?_
 show wpAny _ _ (callAny.viaDunder (.ref C) _) _ _ _
 unfold callAny.viaDunder
 refine wpAny_bind (call.at ?_)
 dsimp only
 rw[tc_bind]
 refine wpAny_bind (wpAny_pure (wpAny_bind (wpAny_pure ?_)))
 refine wpAny_pure (a:=Fin.again (.call (.builtin "type.__call__") ⟨.ref C::rest,[]⟩)) (And.intro rfl ?_)
 refine codeAny_call_builtin_at (Code.quiet_builtin _ (by decide+kernel)) entry_typeCall (check_slot tc_kind tc_split typ (tc_args _ _ _) ?_)
 unfold Builtin.«type.__call__»
 have hm:Looks (model prog w) h (mroOf (.ref C)) (.ref C::bm):=by
  intro A Q E s k q;obtain⟨aH,g,d,t,os⟩:=s;exact wpAny_mroOf_exc (k _ _ c9) q
 have made:Looks (model prog w) h (Bind.madeBy (.ref C)) (some "Exception.__new__"):=by
  intro A Q E s k q;obtain⟨aH,g,d,t,os⟩:=s;exact wpAny_madeBy_exc (k _ _ c9) q
 have emp:(Value.ref C::bm).isEmpty=false:=rfl
 repeat(first|simp only[emp,Bool.false_eq_true,if_false]|with_reducible refine wpAny_call ?_|lk)
 refine Ox c9 dn dU pk ?_ F0
 have k:∀b o,h.get? b=some o→((h.push (mC rest)).push (hc C h.objs.size)).get? b=some o:=fun b o e=>Heap.get?_push_of_some _ (Heap.get?_push_of_some _ e)
 have af:((h.push (mC rest)).push (hc C h.objs.size)).get? (h.objs.size+1)=some (hc C h.objs.size):=by heap_get
 have t1:Looks (model prog w) ((h.push (mC rest)).push (hc C h.objs.size)) (typeOf (.ref (h.objs.size+1))) (.ref C):=(Looks.ld af).andThen .now
 have s1:=self.keeps k
 have rC:=hi.keeps k
 have dn:=(az (.ref (h.objs.size+1))).keeps k
 unfold isInstance callSpecial? specialOf
 repeat(first|with_reducible refine wpAny_call ?_|lk)
 refine codeAny_mono bC fun r s' z=> ?_
 rcases r with e|(v|_|_|_)<;>first|exact z|exact z.elim|skip
 obtain⟨rfl,z⟩:=z
 exact wpAny_pure (wpAny_pure z)
end
section
open Builtin Builtin.ObjectAttr
noncomputable abbrev tq(C t bv:Addr):Obj:={cls:= .ref C,dict:=some bv,data:= .fields #[.ref t, .none, .none, .none, .bool false, .none]}
section
variable{prog:Program}{w:World}{K:Frag}{C B e t:Addr}{x:Str}{v:Value}{s:Shared}{A:Around}{Q:Unit→Shared→Prop}{E:Value→Shared→Prop}
theorem Vx(X:K.In s.heap){cd:ClassData}(aU:clsIn K C=some cd)(hm:cd.mro=[.ref C, .ref B, .type "Exception", .type "BaseException", .type "object"])(bU:cd.hasDict=true)
 (aY:findIn K (.ref C) "__setattr__"=some (some (.builtin "object.__setattr__"))) (af:findIn K (.ref C) x=some none) (top:mroIn K C (.type "object")=some true)
 (he:s.heap.get? e=some (hc C t))
 (q:∀ax bv bt bU n,(∀b o,b≠e→s.heap.get? b=some o→ax.get? b=some o)→s.heap.objs.size≤bv→ax.get? e=some (tq C t bv)→ax.get? bv=some (df [⟨bU, .str x bt,v⟩] n)→s.heap.objs.size≤ax.objs.size→
  Q () {s with heap:=ax,toks:=bt+1}):
 wpAny (model prog w) A (setAttr (.ref e) x v) Q E s:=by
 obtain⟨aH,g,ku,bt,os⟩:=s
 have I:InstAt aH e (hc C t) C none:=⟨he,rfl,rfl,trivial⟩
 have X:K.In aH:=X
 refine set_plain (s:=⟨aH,g,ku,bt,os⟩) X I aY ?_
 have sP:=PySem.F.store_object
 have sub:Looks (model prog w) aH (isInstance (.ref e) (.type "object")) true:=I.type.andThen (looks_mroIn X top)
 refine codeAny_call_builtin sP.slot.plain sP.entry (@check_slot (model prog w) _ _ ⟨aH,g,ku,bt+1,os⟩ "object.__setattr__" "object" "__setattr__" (.ref e) [.str x bt,v] [] _ sP.kind sP.split sub (sP.args (.ref e) (.str x bt) v) ?_)
 have Q0:Looks (model prog w) aH (mroOf (.ref C)) cd.mro:=(looks_clsIn X aU).andThen .now
 rw[osa_eq,refuse_eq]
 refine wpAny_bind (wpAny_bind (I.type.here (wpAny_bind (Q0.here ?_))))
 rw[hm,refuseLoop_ref,refuseLoop_ref,PySem.F.store_Exception.passes]
 refine wpAny_pure (wpAny_bind (I.type.here (wpAny_bind ((looks_findIn X af).here (wpAny_bind (wpAny_pure ?_))))))
 dsimp only at q he⊢
 unfold storeInOwnDict ownStreamTells ownDictForStores instanceDict
 refine wpAny_bind (wpAny_pure (wpAny_bind ?_))
 refine wpAny_bind (wpAny_loadPart he ?_)
 dsimp only
 refine wpAny_bind ((looks_clsIn X aU).at ?_)
 rw[bU]
 have wK:e≠aH.objs.size:=Nat.ne_of_lt (Heap.lt_size he)
 have tN:(aH.push emptyDict).get? e=some (hc C t):=Heap.get?_push_of_some _ he
 simp only[typeHasDict,Bool.not_true,Bool.false_eq_true,if_false,Bool.or_self]
 have Rt:aH.objs.size≠e:=Ne.symm wK
 have ne1:∀b o,b≠e→aH.get? b=some o→((aH.push emptyDict).update e fun o=>{cls:=o.cls,dict:=some aH.objs.size,data:=o.data,slots:=o.slots}).get? b=some o:=fun b o az h=>by
  rw[Heap.get?_update_other _ _ (Ne.symm az)];exact Heap.get?_push_of_some _ h
 have bW:((aH.push emptyDict).update e fun o=>{cls:=o.cls,dict:=some aH.objs.size,data:=o.data,slots:=o.slots}).get? e=some (tq C t aH.objs.size):=
  Heap.get?_update_self _ tN rfl
 have gQ:((aH.push emptyDict).update e fun o=>{cls:=o.cls,dict:=some aH.objs.size,data:=o.data,slots:=o.slots}).get? aH.objs.size=some (df [] 0):=by
  rw[Heap.get?_update_other _ _ wK];exact Heap.get?_push_at rfl rfl
 have mz:((aH.push emptyDict).update e fun o=>{cls:=o.cls,dict:=some aH.objs.size,data:=o.data,slots:=o.slots}).objs.size=aH.objs.size+1:=by
  rw[Heap.size_after_update,Heap.size_push]
 refine wpAny_bind (wpAny_alloc (wpAny_bind (wpAny_update tN (wpAny_pure ?_))))
 generalize FF:((aH.push emptyDict).update e fun o=>{cls:=o.cls,dict:=some aH.objs.size,data:=o.data,slots:=o.slots})=ah at ne1 bW gQ mz
 show wpAny _ _ (storeInDict aH.objs.size (.str x bt) x v) _ _ ⟨ah,g,ku,bt+1,os⟩
 unfold storeInDict newKeyGuard nsSet
 refine wpAny_bind (wpAny_pure (wpAny_bind ?_))
 refine wpAny_bind (wpAny_bind (wpAny_askSetting (wpAny_pure (wpAny_bind (wpAny_mkText (wpAny_bind (wpAny_loadPart gQ ?_)))))))
 dsimp only[df]
 rw[aRefKeyMayBeTheName_at]
 have M1:(!(#[]:Array DictEntry).any (·.key.isStr x)&&(#[]:Array DictEntry).any (·.refKey))=false:=by simp
 rw[show([]:List DictEntry).toArray= #[]from rfl,M1]
 refine wpAny_updatePart gQ ?_
 have tT:Obj.putName x (PyData.keyHash w.params x) (.str x (bt+1)) v (df [] 0)=df [⟨hashStr w x, .str x (bt+1),v⟩] (putN x [] 0):=by
  rw[Gu];exact putName_dict x _ _ v [] 0
 have fA:(ah.update aH.objs.size (Obj.putName x (PyData.keyHash w.params x) (.str x (bt+1)) v)).get? aH.objs.size=some (df [⟨hashStr w x, .str x (bt+1),v⟩] (putN x [] 0)):=by
  rw[Heap.get?_update_self _ gQ (by rw[tT];rfl),tT]
 refine wpAny_bind (wpAny_lookBehind fA (pastItsLine_dict (by rw[List.size_toArray,sizeLine_eq];simp)) ?_)
 refine wpAny_pure ?_
 refine q _ aH.objs.size (bt+1) (hashStr w x) _ (fun b o az h=> ?_) (Nat.le_refl _) ?_ fA ?_
 ·have dB:aH.objs.size≠b:=Nat.ne_of_gt (Heap.lt_size h)
  rw[Heap.get?_update_other _ _ dB];exact ne1 b o az h
 ·rw[Heap.get?_update_other _ _ Rt];exact bW
 ·rw[Heap.size_after_update,mz];omega
end
end
section
variable{c:a9}{nm:a5}{k:Nat}
theorem yR{x:Str}{p pos:Pos}{args:List Expr}{bb:List a0}{w:Value}(hf:bA c nm k (.Name x p) (aj (.st w)))(aU:Callee c w)(aP:f7 c nm k args bb)
 {fr:cX} (aL:dw nm fr) {J:List Addr} {σ:aN} {H:ao} {s:Shared} (I:aX c J H s) (mK:dm c nm fr J σ s) {vs:List V} {H1:ao} (cL:eH bb σ H=some (vs,H1)) {A:Around} (a:cz k A)
 {Q:Value→Shared→Prop} {E:Value→Shared→Prop}
 (q:∀aw s' ws,aX c aw H1 s'→Step [] J aw s s'→bL s'.heap aw vs ws→wpAny (model c.prog c.w) A (call w ws []) Q E s'):
 wpAny (model c.prog c.w) A (eval (.Call (.Name x p) args [] pos) fr.env) Q E s:=by
 refine Call_Name rfl (hf.at aL I mK rfl a fun cy s1 c1 br dO bo bl=> ?_)
 obtain rfl:=bl.my
 refine aU (uy aP) (xB aL aP br dO cL a fun ct s2 ws bx eO bB bN=>⟨bx.keep,?_⟩)
 exact q ct s2 ws bx (bo.trans bB) bN
end
section
variable{prog:Program}{w:World}{A:Around}{C:Addr}{E:Value→Shared→Prop}{env:Env}
variable{nm q:Str}{N:Addr}{bs bm:List Value}{hdct:Bool}{sn:List Str}{sub:List Value}{ab:Bool}{col:Option Bool}{dd:Option Addr}{k0 k1 k2 k3 k5:Option Value}{newId:String}
theorem U4{s:Shared}{x:Sem Value}{Q:Flow→Shared→Prop}(Qi:bm.contains (.type "BaseException")=true)(bU:A.handled=none)
 (h:wpAny (model prog w) A x (fun v hQ=>∃e t bv,v= .ref e∧hQ.heap.get? C=some (excClassObj nm q C N bs bm hdct sn sub ab col dd k0 k1 k2 k3 k5 newId)∧hQ.heap.get? e=some (tq C t bv)∧E (.ref e) hQ) E s):
 wpAny (model prog w) A (raiseStmt env (some x) none) Q E s:=by
 have rv:(Value.ref C::bm).contains (.type "BaseException")=true:=by rw[List.contains_cons,Qi,Bool.or_true]
 unfold raiseStmt
 refine wpAny_bind (wpAny_mono h (fun v hQ jT=> ?_) fun _ _ x=>x)
 obtain⟨e,t,bv,rfl,c9,he,fm⟩:=jT
 obtain⟨aH,g,d,bt,os⟩:=hQ
 repeat(first|with_reducible refine wpAny_loadPart_at he ?_|with_reducible refine wpAny_loadPart_at c9 ?_|(with_reducible refine wpAny_isSubtype_exc c9 ?_;rw[rv])|wp_step)
 exact wpAny_raiseNew_none bU fm
end
structure mJ(K:Frag)(C:Addr)(x:Str)(f:Addr):Prop extends ExcCls K C where
 cls:∃cd B,clsIn K C=some cd∧cd.mro=[.ref C, .ref B, .type "Exception", .type "BaseException", .type "object"]∧cd.hasDict=true
 set:findIn K (.ref C) "__setattr__"=some (some (.builtin "object.__setattr__"))
 get:findIn K (.ref C) "__getattribute__"=some (some (.builtin "BaseException.__getattribute__"))
 hook:findIn K (.ref C) "__getattr__"=some none
 init:findIn K (.ref C) "__init__"=some (some (.ref f))
 fn:typeIn K (.ref f)=some (.type "function")
 free:findIn K (.ref C) x=some none
theorem aX.yN{c:a9}{J:List Addr}{H:ao}{s s':Shared}(S:List Addr)(I:aX c J H s)(tH:∀e∈S,e∉J∧c.base.get? e=none∧∀o,s.heap.get? e=some o→¬fi o)
 (aB:∀b o,b∉S→s.heap.get? b=some o→s'.heap.get? b=some o) (aY:s.heap.objs.size≤s'.heap.objs.size):aX c J H s':=by
 have hf:∀b o,s.heap.get? b=some o→fi o→s'.heap.get? b=some o:=fun b o e f=>aB b o (fun q=>(tH b q).2.2 o e f) e
 refine⟨fun b o e=>aB _ _ (fun q=> ?_) (I.keep b o e),I.iH,Nat.le_trans I.big aY,I.bk,I.len,fun i m e=> ?_⟩
 ·have:=(tH b q).2.1;rw[e] at this;cases this
 ·obtain⟨a,o,ag,ah,aE⟩:=I.objs i m e
  exact⟨a,o,ag,aB _ _ (fun q=>(tH a q).1 (List.mem_of_getElem? ag)) ah,aE.mono hf (fun _ _ e=>e)⟩
theorem Step.mg{own J aw:List Addr}{s s':Shared}(x:Step own J aw s s'){a:Addr}(h:a∉J)(aP:a<s.heap.objs.size):a∉aw:=by
 obtain⟨t,rfl,bg⟩:=x.ext
 intro q
 rcases List.mem_append.mp q with q|q
 ·exact h q
 ·exact absurd aP (Nat.not_lt.mpr (bg a q))
theorem Step.yN{S J:List Addr}{s s':Shared}(aB:∀b o,b∉S→s.heap.get? b=some o→s'.heap.get? b=some o)(aY:s.heap.objs.size≤s'.heap.objs.size)(b6:s'.gens=s.gens)(aT:s'.os=s.os):Step S J J s s':=
 ⟨⟨[],by simp⟩,fun b o e _ h=>aB b o h e,aY,b6,aT⟩
section
variable{c:a9}
theorem init_exc(ok:c.Ok){C f e t:Addr}(Y:mJ c.K C "told" f){dT dC ig mj:Pos}
 (eD:FnAt c f [("self", .local),("told", .local)] 2 [.Assign [.Attribute (.Name "self" dT) "told" dC] (.Name "told" ig) mj])
 {J:List Addr} {H:ao} {s:Shared} (I:aX c J H s) (he:s.heap.get? e=some (hc C t)) (rB:e∉J) (az:c.base.get? e=none) {v:V} {w:Value} (r:aC s.heap J v w) {k:Nat} {A:Around} (a:cz (k+1) A)
 {R:Result→Shared→Prop}
 (q:∀aw s' bv bt bU n u,aX c aw H s'→Step [e] J aw s s'→s.heap.objs.size≤bv→bv∉aw→bv≠e→c.base.get? bv=none→s'.heap.get? e=some (tq C t bv)→s'.heap.get? bv=some (df [⟨bU, .str "told" bt,u⟩] n)→aC s'.heap aw v u→R (.ok (.ret .none)) s'):
 codeAny (model c.prog c.w) A (.call (.ref f) ⟨[.ref e,w],[]⟩) R s:=by
 refine xi ok eD (args:=[.st (.ref e),v]) I (.ai (by rw[aC]) (.ai r .kO)) rfl a fun fr s1 aL br bo _ ly a1=> ?_
 have tN:s1.heap.get? e=some (hc C t):=bo.ey _ _ he rB (by simp)
 have aR:bA c [("self", .local),("told", .local)] k (.Name "told" ig) (aa 1):=ac _ rfl
 have aY:bA c [("self", .local),("told", .local)] k (.Name "self" dT) (aa 0):=ac _ rfl
 refine wpAny_execs_cons (wpAny_Assign_stores (aR.at aL br.h br.f rfl a1 fun ct s2 qz bx eO bB bN=> ?_) rfl rfl)
 show wpAny _ _ (do
  let hM←holding [qz] (eval (.Name "self" dT) fr.env)
  standAt dC.atName
  holding [qz,hM] (setAttr hM "told" qz)
  release [qz,hM] []) _ _ _
 refine wpAny_bind (wpAny_holding (aY.at aL bx eO rfl a1 fun ec s3 Cd c0 jE cB fq=>wpAny_bind (wpAny_standAt (wpAny_bind (wpAny_holding ?_)))))
 obtain rfl:=fq.my
 have SX:=Heap.lt_size he
 have p9:=Heap.lt_size tN
 have c':=bB.mg rB p9
 have Fx:s2.heap.get? e=some (hc C t):=bB.ey _ _ tN rB (by simp)
 have eS:=cB.mg c' (Heap.lt_size Fx)
 have Fy:s3.heap.get? e=some (hc C t):=cB.ey _ _ Fx c' (by simp)
 obtain⟨cd,B,qE,Le,hX⟩:=Y.cls
 refine Vx (ok.K.keeps c0.keep) qE Le hX Y.set Y.free Y.top Fy fun ax bv bt bU n k1 k2 k3 Av k5=>wpAny_release ?_
 have ug:∀o,s3.heap.get? e=some o→¬fi o:=fun o aT f=>by
  rw[Fy] at aT;cases aT
  rcases f with⟨f,_⟩|f<;>cases f
 have aB:∀b o,b∉[e]→s3.heap.get? b=some o→ax.get? b=some o:=fun b o az h=>k1 b o (fun z=>az (by simp[z])) h
 have h5:aX c ec H {s3 with heap:=ax,toks:=bt+1}:=c0.yN [e] (fun x af=>by rw[List.mem_singleton] at af;subst af;exact⟨eS,az,ug⟩) aB k5
 have hP:Step [e] ec ec s3 {s3 with heap:=ax,toks:=bt+1}:= .yN aB k5 rfl rfl
 have st:=(((bo.weaken (own:=[e])).trans bB.weaken).trans cB.weaken).trans hP
 have mz:s.heap.objs.size≤bv:=Nat.le_trans (((bo.trans bB).trans cB).size) k2
 refine wpAny_execs_nil ?_
 refine q ec _ bv bt bU n qz h5 st mz (fun q=>absurd (c0.lt q) (Nat.not_lt.mpr k2)) (fun z=>absurd SX (Nat.not_lt.mpr (z▸mz))) ?_ k3 Av ?_
 ·cases bC:c.base.get? bv with
  |none=>rfl
  |some o=>exact absurd (Heap.lt_size (c0.keep _ _ bC)) (Nat.not_lt.mpr k2)
 ·exact aC.mono (fun b o h f=>k1 b o (fun z=>ug o (z▸h) f) h) (fun _ _ e=>e) _ (bN.step bx cB)
end
section
variable{c:a9}{nm:a5}{k:Nat}
structure yy(c:a9)(C:Addr)(J aw:List Addr)(H:ao)(v:V)(s s':Shared)(e:Addr):Prop where
 inv:aX c aw H s'
 st:Step [] J aw s s'
 new:s.heap.objs.size≤e
 off:e∉aw
 base:c.base.get? e=none
 obj:∃t bv bt bU n u,s'.heap.get? e=some (tq C t bv)∧s'.heap.get? bv=some (df [⟨bU, .str "told" bt,u⟩] n)∧aC s'.heap aw v u∧s.heap.objs.size≤bv∧bv∉aw∧bv≠e∧c.base.get? bv=none
theorem U5(ok:c.Ok){C f:Addr}(Y:mJ c.K C "told" f){dT dC ig mj:Pos}
 (eD:FnAt c f [("self", .local),("told", .local)] 2 [.Assign [.Attribute (.Name "self" dT) "told" dC] (.Name "told" ig) mj])
 {x:Str} {p q8 pos:Pos} {args:List Expr} {bb:List a0} (hf:bA c nm (k+2) (.Name x p) (aj (.st (.ref C)))) (aU:Callee c (.ref C)) (aP:f7 c nm (k+2) args bb)
 {fr:cX} (aL:dw nm fr) {J:List Addr} {σ:aN} {H:ao} {s:Shared} (I:aX c J H s) (mK:dm c nm fr J σ s) {v:V} {H1:ao} (cL:eH bb σ H=some ([v],H1)) {A:Around} (a:cz (k+2) A)
 {Q:Flow→Shared→Prop} {E:Value→Shared→Prop} (q:∀aw s' e,yy c C J aw H1 v s s' e→E (.ref e) s'):
 wpAny (model c.prog c.w) A (exec (.Raise (some (.Call (.Name x p) args [] q8)) none pos) fr.env) Q E s:=by
 rw[arm_exec_Raise]
 obtain⟨c2,oG,N,bs,bm,hdct,sn,sub,ab,col,dd,k0,k1,k2,k3,k5,tE,dn,dU,pk,oa⟩:=Y.at'
 have bU:A.handled=none:=a.2.2.2 (by omega)
 show wpAny _ _ (standAt pos>>=fun _=>raiseStmt fr.env (some (eval (.Call (.Name x p) args [] q8) fr.env>>=fun v=>standAt pos>>=fun _=>pure v)) none) _ _ _
 refine wpAny_bind (wpAny_standAt (U4 (C:=C) (nm:=c2) (q:=oG) (N:=N) (bs:=bs) (bm:=bm) (hdct:=hdct) (sn:=sn) (sub:=sub) (ab:=ab) (col:=col) (dd:=dd) (k0:=k0) (k1:=k1) (k2:=k2) (k3:=k3) (k5:=k5) (newId:="Exception.__new__") oa bU ?_))
 refine wpAny_bind (yR hf aU aP aL I mK cL a fun cy s1 ws br bo bl=> ?_)
 rw[bL] at bl
 obtain⟨u,r,rfl,mn,bN⟩:=bl
 rw[bL] at bN
 obtain rfl:=bN
 obtain⟨aH,g,ku,bt,os⟩:=s1
 have X:c.K.In aH:=ok.K.keeps br.keep
 refine wpAny_call (Ow X Y.toExcCls (looks_findIn X Y.init) (fun self=>bind_fn X self Y.fn) rfl (by size_fits) ?_)
 have keep:∀b o,aH.get? b=some o→((aH.push (mC [u])).push (hc C aH.objs.size)).get? b=some o:=fun b o e=>Heap.get?_push_of_some _ (Heap.get?_push_of_some _ e)
 have size:aH.objs.size≤((aH.push (mC [u])).push (hc C aH.objs.size)).objs.size:=by rw[Heap.size_push,Heap.size_push];omega
 have bx:aX c cy H1 ⟨(aH.push (mC [u])).push (hc C aH.objs.size),g,ku,bt,os⟩:=br.grow keep size
 have bB:Step [] cy cy ⟨aH,g,ku,bt,os⟩ ⟨(aH.push (mC [u])).push (hc C aH.objs.size),g,ku,bt,os⟩:= .grow keep size rfl rfl
 have he:((aH.push (mC [u])).push (hc C aH.objs.size)).get? (aH.objs.size+1)=some (hc C aH.objs.size):=by heap_get
 have rB:aH.objs.size+1∉cy:=fun z=>absurd (br.lt z) (Nat.not_lt.mpr (Nat.le_succ _))
 have az:c.base.get? (aH.objs.size+1)=none:=by
  cases bC:c.base.get? (aH.objs.size+1)with
  |none=>rfl
  |some o=>exact absurd (Heap.lt_size (br.keep _ _ bC)) (Nat.not_lt.mpr (Nat.le_succ _))
 have xN:=bo.trans bB
 have mz:=bo.size
 dsimp only at mz
 refine init_exc ok Y eD bx he rB az (mn.step br bB) a.create fun aw s' bv sj QK n fG c0 cB cC gQ Ng yY DP Nh Ni=>⟨rfl,wpAny_bind (wpAny_standAt (wpAny_pure ?_))⟩
 have uL:Step [aH.objs.size+1] J aw s s':=xN.weaken.trans cB
 have st:Step [] J aw s s':=⟨uL.ext,fun b o e h _=>uL.ey b o e h fun z=>by
  rw[List.mem_singleton] at z;exact absurd (Heap.lt_size e) (Nat.not_lt.mpr (z▸Nat.le_trans mz (Nat.le_succ _))),uL.size,uL.gens,uL.os⟩
 dsimp only at cC
 exact⟨_,_,bv,rfl,ok.K.keeps c0.keep _ _ tE,DP,q aw s' _ ⟨c0,st,Nat.le_trans mz (Nat.le_succ _),cB.mg rB (by have:=Heap.lt_size he;exact this),az,_,bv,sj,QK,n,fG,DP,Nh,Ni,Nat.le_trans mz (Nat.le_trans size cC),gQ,Ng,yY⟩⟩
end
structure gi(base:Heap)(bX:List Addr)(h ax:Heap):Prop where
 base:∀b o,base.get? b=some o→h.get? b=some o→ax.get? b=some o
 keep:∀b o,h.get? b=some o→(∀vs,o.data≠ .fields vs)→b∉bX→ax.get? b=some o
 up:∀b o,h.get? b=some o→(∀vs,o.data≠ .fields vs)→∃f3,ax.get? b=some {o with slots:=f3}
 size:h.objs.size≤ax.objs.size
theorem gi.trans{base:Heap}{bX:List Addr}{h ag ah:Heap}(x:gi base bX h ag)(y:gi base bX ag ah):gi base bX h ah:=
 ⟨fun b o e k=>y.base b o e (x.base b o e k),fun b o e n f=>y.keep b o (x.keep b o e n f) n f,fun b o e n=>by
  obtain⟨f3,ak⟩:=x.up b o e n
  obtain⟨BV,bW⟩:=y.up b _ ak n
  exact⟨BV,bW⟩,Nat.le_trans x.size y.size⟩
structure kb(base:Heap)(C e bv:Addr)(a3:Value)(h:Heap):Prop where
 fresh:base.get? e=none
 obj:∃fW vs,h.get? e=some fW∧fW.cls= .ref C∧fW.dict=some bv∧fW.data= .fields vs∧((vs[1]?=some .none∧a3= .none)∨∃T lF be,vs[1]?=some (.ref T)∧T≠e∧base.get? T=none∧h.get? T=some lF∧lF.data= .fields be∧be[3]?=some a3)
theorem Nq(o:Obj)(f:Array Value→Array Value):(o.mapFields f).dict=o.dict:=by
 unfold Obj.mapFields;split<;>rfl
section
variable{M:Model}{A:Around}{E:Value→Shared→Prop}{s:Shared}
theorem I0{base:Heap}{env:Env}{outer:List Env}{L C e bv:Addr}{fW:Obj}{vs:Array Value}{head:Value}{Qf:Bool}{Q:Unit→Shared→Prop}
 (gD:A.frames=some (env::outer)) (au:s.heap.FunFrames base (env::outer)) (hf:env.frame=some L) (aB:base.StaysIn s.heap)
 (he:s.heap.get? e=some fW) (jS:base.get? e=none) (aU:fW.cls= .ref C) (jQ:fW.dict=some bv) (hd:fW.data= .fields vs) (iW:1<vs.size)
 (q:∀ax,gi base ((env::outer).filterMap (·.frame)) s.heap ax→kb base C e bv (rawInt L) ax→Q () {s with heap:=ax}):
 wpAny M A (do let a←frameOf env;let e_←entryPlaceOf L Qf;let b←EntryCells.newEntry head a .none (rawInt L) .none e_;setField (.ref e) 1 b) Q E s:=by
 have Qz:e∉(env::outer).filterMap (·.frame):=fun hm=>by
  obtain⟨_,o,aT,wE⟩:=au.mem hm
  rw[he] at aT;cases aT;exact wE vs hd
 refine wpAny_bind (wpAny_frameOf_fun gD au hf fun jT kE=>wpAny_bind (wpAny_entryPlaceOf fun e_ lA=> ?_))
 unfold EntryCells.newEntry newFields
 refine wpAny_bind (wpAny_newObj_type ?_ (lA.sizeOk5 _ _ _ _ _))
 have FA:jT.get? e=some fW:=(kE.2.1 e Qz).trans he
 generalize F7:({cls:= .type "traceback",dict:=none,data:= .fields ([head, .ref L, .none,rawInt L, .none]++(if e_.isEmpty then List.replicate 6 Value.none else e_)).toArray}:Obj)=mB
 have Ro:mB.data= .fields ([head, .ref L, .none,rawInt L, .none]++(if e_.isEmpty then List.replicate 6 Value.none else e_)).toArray:=by rw[←F7]
 have Rp:mB.isFreed=false:=by rw[←F7];rfl
 have ww:=Heap.get?_push_of_some (h:=jT) mB FA
 refine wpAny_setField ww hd iW (q _ ?_ ?_)
 ·have other:∀b o,b≠e→jT.get? b=some o→((jT.push mB).update e (Obj.mapFields (·.setIfInBounds 1 (.ref jT.objs.size)))).get? b=some o:=fun b o az h=>by
   rw[Heap.get?_update_other _ _ (Ne.symm az)];exact Heap.get?_push_of_some _ h
  have ne:∀b o,s.heap.get? b=some o→(∀vs,o.data≠ .fields vs)→b≠e:=fun b o az aD z=>by rw[z,he] at az;cases az;exact aD vs hd
  refine⟨fun b o az h=>other b o (fun z=>by rw[z,jS] at az;cases az) ((kE.2.1 b fun hm=>by rw[(au.mem hm).1] at az;cases az).trans h),fun b o h n f=>other b o (ne b o h n) ((kE.2.1 b f).trans h),fun b o h n=> ?_,?_⟩
  ·obtain⟨f3,ak⟩:=kE.2.2 b o h
   exact⟨f3,other b _ (ne b o h n) ak⟩
  ·show _≤((jT.push mB).update e _).objs.size
   rw[Heap.size_after_update,Heap.size_push,kE.1];exact Nat.le_succ _
 ·have pO:jT.objs.size≠e:=Nat.ne_of_gt (Heap.lt_size FA)
  refine⟨jS,_,_,Heap.get?_update_self _ ww (Obj.isFreed_of_fields (Obj.data_mapFields hd _)),(Obj.cls_mapFields _ _).trans aU,(Nq _ _).trans jQ,Obj.data_mapFields hd _, .inr ⟨jT.objs.size,mB,_,by simp[iW],pO,?_,?_,Ro,?_⟩⟩
  ·cases bC:base.get? jT.objs.size with
   |none=>rfl
   |some o=>have:=Heap.lt_size (aB _ _ bC);rw[←kE.1] at this;exact absurd this (Nat.lt_irrefl _)
  ·rw[Heap.get?_update_other _ _ (Ne.symm pO)];exact Heap.get?_push_size _ Rp
  ·rcases lA with rfl|⟨_,_,_,_,_,_,_,rfl⟩<;>simp
theorem I2{base:Heap}{bX:List Addr}{h:Heap}{T:Addr}{lF:Obj}{be:Array Value}(aD:base.get? T=none)(c_:h.get? T=some lF)(hd:lF.data= .fields be)(f:Obj→Obj):gi base bX h (h.update T f):=by
 have ne:∀b o,h.get? b=some o→(∀vs,o.data≠ .fields vs)→b≠T:=fun b o az n z=>by rw[z,c_] at az;cases az;exact n be hd
 refine⟨fun b o e k=> ?_,fun b o e n _=> ?_,fun b o e n=>⟨o.slots,?_⟩,Nat.le_of_eq (Heap.size_after_update ..).symm⟩
 ·rw[Heap.get?_update_other _ _ (fun z=>by rw[←z,aD] at e;cases e)];exact k
 ·rw[Heap.get?_update_other _ _ (Ne.symm (ne b o e n))];exact e
 ·rw[Heap.get?_update_other _ _ (Ne.symm (ne b o e n))];exact e
theorem zr{base:Heap}(bX:List Addr){C e bv:Addr}{a3:Value}{Q:Unit→Shared→Prop}(x:kb base C e bv a3 s.heap)
 (q:∀ax,gi base bX s.heap ax→kb base C e bv .none ax→Q () {s with heap:=ax}):wpAny M A (setFlight (.ref e) none) Q E s:=by
 obtain⟨jS,fW,vs,he,aU,jQ,hd,⟨ag,rfl⟩|⟨T,lF,be,ag,pO,wo,c_,oy,aE⟩⟩:=x
 ·unfold setFlight
  refine wpAny_bind (wpAny_field he hd ag ?_)
  rw[if_neg (by decide)]
  exact wpAny_pure (q s.heap ⟨fun _ _ _ h=>h,fun _ _ h _ _=>h,fun _ o h _=>⟨o.slots,h⟩,Nat.le_refl _⟩ ⟨jS,fW,vs,he,aU,jQ,hd, .inl ⟨ag,rfl⟩⟩)
 ·have iW:3<be.size:=(Array.getElem?_eq_some_iff.mp aE).1
  unfold setFlight
  refine wpAny_bind (wpAny_field he hd ag ?_)
  rw[if_pos (show(Value.ref T !=Value.none)=true from by simp)]
  refine wpAny_setField c_ oy iW (q _ (I2 wo c_ oy _) ⟨jS,fW,vs,?_,aU,jQ,hd, .inr ⟨T,_,_,ag,pO,wo,Heap.get?_update_self _ c_ (Obj.isFreed_of_fields (Obj.data_mapFields oy _)),Obj.data_mapFields oy _,by simp[iW]⟩⟩)
  rw[Heap.get?_update_other _ _ pO];exact he
theorem I1{base:Heap}{env:Env}{outer:List Env}{L C e bv:Addr}{Q:Unit→Shared→Prop}
 (gD:A.frames=some (env::outer)) (au:s.heap.FunFrames base (env::outer)) (hf:env.frame=some L) (aB:base.StaysIn s.heap) (x:kb base C e bv .none s.heap)
 (q:∀ax,gi base ((env::outer).filterMap (·.frame)) s.heap ax→kb base C e bv (rawInt L) ax→Q () {s with heap:=ax}):
 wpAny M A (noteFrame (.ref e) env) Q E s:=by
 obtain⟨jS,fW,vs,he,aU,jQ,hd,⟨ag,_⟩|⟨T,lF,be,ag,pO,wo,c_,oy,aE⟩⟩:=x
 ·unfold noteFrame
  simp only[hf]
  refine wpAny_bind (wpAny_field he hd ag ?_)
  rw[if_neg (by decide)]
  exact I0 gD au hf aB he jS aU jQ hd (Array.getElem?_eq_some_iff.mp ag).1 q
 ·unfold noteFrame
  simp only[hf]
  refine wpAny_bind (wpAny_field he hd ag ?_)
  rw[if_pos (show(Value.ref T !=Value.none)=true from by simp)]
  refine wpAny_bind (wpAny_field c_ oy aE ?_)
  rw[if_neg (show¬((Value.none==rawInt L)=true)from by simp[rawInt])]
  refine wpAny_bind (wpAny_setField c_ oy (Array.getElem?_eq_some_iff.mp aE).1 ?_)
  have cZ:gi base ((env::outer).filterMap (·.frame)) s.heap (s.heap.update T (Obj.mapFields (·.setIfInBounds 3 Value.none))):=I2 wo c_ oy _
  refine I0 gD (au.of_keeps fun b o h n=> ?_) hf (fun b o h=>cZ.base b o h (aB b o h)) ((Heap.get?_update_other _ _ pO).trans he) jS aU jQ hd (Array.getElem?_eq_some_iff.mp ag).1 fun ax c' bj=>q ax (cZ.trans c') bj
  obtain⟨f3,ak⟩:=cZ.up b o h n
  exact⟨_,ak,rfl⟩
end
section
open Builtin Builtin.ObjectAttr
section
variable{prog:Program}{w:World}{K:Frag}{C e:Addr}{name:Str}{v:Value}{s:Shared}{A:Around}{Q:Value→Shared→Prop}{E:Value→Shared→Prop}{expr:Bool}
theorem PG{I7:Obj}{nu:Option Obj}(X:K.In s.heap)(I:W.InstAt s.heap e I7 C nu)(QG:findIn K (.ref C) "__getattribute__"=some (some (.builtin "BaseException.__getattribute__")))
 (aB:findIn K (.ref C) "__getattr__"=some none) (dh:mroIn K C (.type "BaseException")=some true)
 (hf:findObj K C nu name=some (.value v)) (bU:handedIn v=true) (q:Q v {s with toks:=s.toks+1}):wpAny (model prog w) A (getAttr (.ref e) name expr) Q E s:=by
 obtain⟨aH,g,d,t,os⟩:=s
 have X:K.In aH:=X
 have I:W.InstAt aH e I7 C nu:=I
 have yk:=I.type (M:=model prog w)
 have qM:=looks_findIn (M:=model prog w) X QG
 have yl:=looks_find (M:=model prog w) X I hf
 have LJ:=looks_findIn (M:=model prog w) X aB
 have LK:Looks (model prog w) aH (isInstance (.ref e) (.type "BaseException")) true:=yk.andThen (looks_mroIn X dh)
 have ne:(onTheHeap (Value.ref C)&&Value.builtin "BaseException.__getattribute__"==Value.builtin "object.__getattribute__")=false:=by
  rw[show(Value.builtin "BaseException.__getattribute__"==Value.builtin "object.__getattribute__")=false from by decide+kernel];rfl
 unfold getAttr getAttrBy
 refine wpAny_bind (wpAny_mkText (wpAny_holding (wpAny_bind (yk.at (wpAny_bind (qM.at ?_))))))
 dsimp only
 rw[ne]
 simp only[Bool.false_eq_true,if_false]
 unfold getAttrByItsOwn hookBefore callGetattribute
 have af:(expr&&onTheHeap (Value.builtin "BaseException.__getattribute__"))=false:=by cases expr<;>rfl
 rw[af,if_pos (show onTheHeap (Value.ref C)=true from rfl)]
 simp only[Bool.false_eq_true,if_false]
 refine wpAny_bind (LJ.at (wpAny_bind (wpAny_attempt (wpAny_holding ?_))))
 have CD:=PySem.F.excAttr_ValueError
 unfold boundAndCalled
 rw[CD.ga.bind]
 have MY:argsOk "BaseException.__getattribute__" ⟨[.ref e, .str name t],[]⟩:=PySem.F.args_bexc_ga _ _
 refine wpAny_bind (wpAny_pure ?_)
 refine wpAny_call (codeAny_call_builtin CD.ga.plain PySem.F.entry_bexc_ga (@check_slot (model prog w) _ _ ⟨aH,g,d,t+1,os⟩ "BaseException.__getattribute__" "BaseException" "__getattribute__" (.ref e) [.str name t] [] _ (by decide+kernel) (by decide+kernel) LK MY ?_))
 unfold Builtin.«object.__getattribute__»
 refine wpAny_bind (wpAny_pure (a:=(Value.ref e,[Value.str name t])) ?_)
 refine wpAny_bind (wpAny_pure (a:=name) ?_)
 refine wpAny_bind (yk.at (wpAny_bind (yl.at ?_)))
 refine wpAny_pure ?_
 show wpAny _ _ (handedOut v) _ _ _
 rw[handedOut_of bU];exact wpAny_pure q
end
end
section
variable{c:a9}{nm:a5}{fr:cX}{J:List Addr}{H:ao}{σ:aN}{s:Shared}{bX:List Addr}{ax:Heap}
theorem fi.r5{o:Obj}(f:fi o):∀vs,o.data≠ .fields vs:=by
 intro vs e
 rcases f with⟨_,i_,n,q⟩|q<;>rw[e] at q<;>cases q
theorem qO.r5{o:Obj}(m:qO o):∀vs,o.data≠ .fields vs:=by
 intro vs e
 rcases m with⟨_,_,rfl⟩|⟨_,_,rfl⟩<;>cases e
noncomputable def dx(c:a9)(J:List Addr)(s:Shared)(bX:List Addr):Prop:=∀L∈bX,L∉J∧c.base.get? L=none∧∃o av n,s.heap.get? L=some o∧o.data= .dict av n
theorem dx.iG(x:dx c J s bX){L:Addr}(h:L∈bX){o:Obj}(e:s.heap.get? L=some o):¬fi o:=by
 obtain⟨_,_,cF,av,n,jK,d⟩:=x L h
 rw[jK] at e;cases e
 intro f
 rcases f with⟨_,_,_,q⟩|q<;>rw[d] at q<;>cases q
theorem gi.ou(n:gi c.base bX s.heap ax)(x:dx c J s bX):∀b o,s.heap.get? b=some o→fi o→ax.get? b=some o:=
 fun b o e f=>n.keep b o e f.r5 fun q=>x.iG q e f
theorem aX.ie(I:aX c J H s)(n:gi c.base bX s.heap ax)(x:dx c J s bX):aX c J H {s with heap:=ax}:=by
 refine⟨fun b o e=>n.base b o e (I.keep b o e),I.iH,Nat.le_trans I.big n.size,I.bk,I.len,fun i m e=> ?_⟩
 obtain⟨a,o,ag,ah,aE⟩:=I.objs i m e
 exact⟨a,o,ag,n.keep a o ah aE.mut.r5 fun q=>(x a q).1 (List.mem_of_getElem? ag),aE.mono (n.ou x) (fun _ _ e=>e)⟩
theorem gi.cell(n:gi c.base bX s.heap ax){a:Addr}{v:Option Value}(x:s.heap.IsCell a v):ax.IsCell a v:=by
 obtain⟨o,aT,hd⟩:=x
 obtain⟨f3,e⟩:=n.up a o aT (by rw[hd];intro _ q;cases q)
 exact⟨_,e,hd⟩
theorem gi.ns(n:gi c.base bX s.heap ax){a:Addr}{m:Str→Option Value}(x:s.heap.Ns a m):ax.Ns a m:=by
 obtain⟨o,av,ep,aT,hd,r⟩:=x
 obtain⟨f3,e⟩:=n.up a o aT (by rw[hd];intro _ q;cases q)
 exact⟨_,av,ep,e,hd,r⟩
theorem dm.ie(F:dm c nm fr J σ s)(n:gi c.base bX s.heap ax)(x:dx c J s bX):dm c nm fr J σ {s with heap:=ax}:=by
 obtain⟨m,aD,bH,aR⟩:=F.loc
 refine⟨fun a aP=> ?_,m,n.ns aD,bH,fun i v e=> ?_⟩
 ·obtain⟨ag,ah,o,aE,a7⟩:=F.own a aP
  obtain⟨f3,e⟩:=n.up a o aE (by rcases a7 with⟨_,_,q⟩|⟨_,q⟩<;>rw[q]<;>intro _ z<;>cases z)
  exact⟨ag,ah,_,e,a7⟩
 ·obtain⟨y,gv,ag,ah,aE⟩:=aR i v e
  refine⟨y,gv,ag,?_,aC.mono (n.ou x) (fun _ _ e=>e) _ aE⟩
  rcases ah with ah|⟨ah,b4,a7,cj⟩
  ·exact .inl ah
  ·exact .inr ⟨ah,b4,a7,n.cell cj⟩
theorem b_.ie(I:b_ c nm fr J σ H s)(n:gi c.base bX s.heap ax)(x:dx c J s bX):b_ c nm fr J σ H {s with heap:=ax}:=
 ⟨I.h.ie n x,I.f.ie n x,I.n.L,fun y aQ=>by
  obtain⟨ag,b4,v,ah,aE,a7⟩:=I.n.cl y aQ
  exact⟨ag,b4,v,ah,n.cell aE,a7⟩,I.n.apart⟩
theorem dx.ie{fL:List Addr}(x:dx c J s fL)(n:gi c.base bX s.heap ax):dx c J {s with heap:=ax} fL:=fun L bH=>by
 obtain⟨ag,ah,o,av,k,aE,a7⟩:=x L bH
 obtain⟨f3,e⟩:=n.up L o aE (by rw[a7];intro _ q;cases q)
 exact⟨ag,ah,_,av,k,e,a7⟩
theorem dx.step{aw:List Addr}{s':Shared}(x:dx c J s bX)(st:Step [] J aw s s'):dx c aw s' bX:=fun L bH=>by
 obtain⟨ag,ah,o,av,k,aE,a7⟩:=x L bH
 exact⟨st.mg ag (Heap.lt_size aE),ah,o,av,k,st.ey _ _ aE ag (by simp),a7⟩
theorem dx.frames{l:List Env}(x:dx c J s (l.filterMap (·.frame)))(aB:∀e∈l,e.scope.kind= .function)(hf:∀e∈l,e.frame=some e.locals):s.heap.FunFrames c.base l:=by
 induction l with
 |nil=>trivial
 |cons e l aK=>
  have FB:=hf e (.head _)
  rw[List.filterMap_cons,FB] at x
  obtain⟨ag,ah,o,av,k,aE,a7⟩:=x e.locals (.head _)
  refine⟨by rw[aB e (.head _)];decide,⟨e.locals,o,FB,ah,aE,by rw[a7];intro _ q;cases q⟩,aK (fun L bH=>x L (.tail _ bH)) (fun a aP=>aB a (.tail _ aP)) (fun a aP=>hf a (.tail _ aP))⟩
end
structure XQ(c:a9)(J aw:List Addr)(H H':ao)(s s':Shared):Prop where
 inv:aX c aw H' s'
 J_:∀nm fr σ,b_ c nm fr J σ H s→b_ c nm fr aw σ H' s'
 bX:∀bX,dx c J s bX→dx c aw s' bX
 Yt:∀v w,aC s.heap J v w→aC s'.heap aw v w
 gens:s'.gens=s.gens
 os:s'.os=s.os
section
variable{c:a9}{J aw gx:List Addr}{H H' yg:ao}{s s' fd:Shared}{bX:List Addr}{ax:Heap}
structure gP(c:a9)(C:Addr)(J:List Addr)(bX:List Addr)(v:V)(s:Shared)(e bv:Addr)(a3:Value):Prop where
 st:kb c.base C e bv a3 s.heap
 told:∃bt bU n u,s.heap.get? bv=some (df [⟨bU, .str "told" bt,u⟩] n)∧aC s.heap J v u
 off:bv∉J∧bv∉bX∧c.base.get? bv=none∧bv≠e
theorem gP.ie{C e bv:Addr}{v:V}{a3 v':Value}(x:gP c C J bX v s e bv a3)(af:kb c.base C e bv v' ax)(n:gi c.base bX s.heap ax)(f:dx c J s bX):gP c C J bX v {s with heap:=ax} e bv v':=by
 obtain⟨bt,bU,k,u,ah,aE⟩:=x.told
 exact⟨af,⟨bt,bU,k,u,n.keep _ _ ah (by intro vs q;cases q) x.off.2.1,aC.mono (n.ou f) (fun _ _ e=>e) _ aE⟩,x.off⟩
theorem gP.less{C e bv:Addr}{v:V}{a3:Value}{fL:List Addr}(x:gP c C J bX v s e bv a3)(h:∀L∈fL,L∈bX):gP c C J fL v s e bv a3:=⟨x.st,x.told,x.off.1,fun q=>x.off.2.1 (h _ q),x.off.2.2⟩
theorem yy.held{C e:Addr}{v:V}(x:yy c C J aw H' v s s' e)(f:dx c J s bX):∃bv,gP c C aw bX v s' e bv .none∧s.heap.objs.size≤bv:=by
 obtain⟨t,bv,bt,bU,n,u,ag,ah,aE,a7,cj,iU,pL⟩:=x.obj
 refine⟨bv,⟨⟨x.base,_,_,ag,rfl,rfl,rfl, .inl ⟨rfl,rfl⟩⟩,⟨bt,bU,n,u,ah,aE⟩,cj,fun q=> ?_,pL,iU⟩,a7⟩
 obtain⟨_,_,o,_,_,aT,_⟩:=f bv q
 exact absurd (Heap.lt_size aT) (Nat.not_lt.mpr a7)
end
section
variable{c:a9}{J:List Addr}{H:ao}{s:Shared}{A:Around}{E:Value→Shared→Prop}{Q:Unit→Shared→Prop}
theorem SH{prog:Program}{w:World}{C e bv:Addr}{env:Env}{outer:List Env}(I:aX c J H s)(gD:A.frames=some (env::outer))(aB:∀x∈env::outer,x.scope.kind= .function)(hf:∀x∈env::outer,x.frame=some x.locals)
 (f:dx c J s ((env::outer).filterMap (·.frame))) (x:kb c.base C e bv .none s.heap)
 (q:∀ax,gi c.base ((env::outer).filterMap (·.frame)) s.heap ax→kb c.base C e bv .none ax→Q () {s with heap:=ax}):
 wpAny (model prog w) A (leaving env (.ref e)) Q E s:=by
 unfold leaving
 refine wpAny_bind (I1 gD (f.frames aB hf) (hf _ (.head _)) I.keep x fun ag cZ a6=> ?_)
 exact zr ((env::outer).filterMap (·.frame)) a6 fun ah c' bj=>q ah (cZ.trans c') bj
end
section
variable{prog:Program}{w:World}{A:Around}{K:Frag}{C:Addr}{E:Value→Shared→Prop}{s:Shared}
theorem Os(X:K.In s.heap)(Y:ExcCls K C){e:Addr}{fW:Obj}(he:s.heap.get? e=some fW)(aU:fW.cls= .ref C)(ag:instIn K (.ref C) (.type "tuple")=some false)
 {Q:Bool→Shared→Prop} (q:Q true s):wpAny (model prog w) A (excMatches (.ref e) (.ref C)) Q E s:=by
 obtain⟨c2,oG,N,bs,bm,hdct,sn,sub,ab,col,dd,k0,k1,k2,k3,k5,tE,dn,dU,pk,oa⟩:=Y.at'
 have qM:=looks_instIn (M:=model prog w) X ag
 have c9:=X _ _ tE
 obtain⟨aH,g,d,t,os⟩:=s
 dsimp only at c9 he qM
 have rv:(Value.ref C::bm).contains (.type "BaseException")=true:=by rw[List.contains_cons,oa,Bool.or_true]
 have Ql:(Value.ref C::bm).contains (.ref C)=true:=by simp
 unfold excMatches isExcClass
 refine wpAny_bind (qM.here ?_)
 simp only[Bool.false_eq_true,if_false]
 refine wpAny_bind (wpAny_pure ?_)
 simp only[List.forIn_cons,List.forIn_nil]
 repeat(first|(with_reducible refine wpAny_loadPart_at he ?_;rw[aU])|with_reducible refine wpAny_loadPart_at c9 ?_|(with_reducible refine wpAny_isSubtype_exc c9 ?_;first|rw[rv]|rw[Ql])|wp_step)
 exact q
end
structure cS(own bX J aw:List Addr)(s s':Shared):Prop where
 ext:∃t,aw=J++t∧∀a∈t,s.heap.objs.size≤a
 keep:∀b o,s.heap.get? b=some o→b∉J→b∉own→(∀vs,o.data≠ .fields vs)→b∉bX→s'.heap.get? b=some o
 up:∀b o,s.heap.get? b=some o→b∉J→b∉own→(∀vs,o.data≠ .fields vs)→∃f3,s'.heap.get? b=some {o with slots:=f3}
 size:s.heap.objs.size≤s'.heap.objs.size
 gens:s'.gens=s.gens
 os:s'.os=s.os
section
variable{c:a9}{nm:a5}{fr:cX}{own bX J aw gx:List Addr}{H H' yg:ao}{σ:aN}{s s' fd:Shared}{ax:Heap}
theorem cS.jv(x:Step own J aw s s'):cS own bX J aw s s':=⟨x.ext,fun b o e ag ah _ _=>x.ey b o e ag ah,fun b o e ag ah _=>⟨o.slots,x.ey b o e ag ah⟩,x.size,x.gens,x.os⟩
theorem cS.Bp{base:Heap}(n:gi base bX s.heap ax):cS own bX J J s {s with heap:=ax}:=⟨⟨[],by simp⟩,fun b o e _ _ h f=>n.keep b o e h f,fun b o e _ _ h=>n.up b o e h,n.size,rfl,rfl⟩
theorem cS.trans(x:cS own bX J aw s s')(y:cS own bX aw gx s' fd):cS own bX J gx s fd:=by
 obtain⟨t,rfl,bg⟩:=x.ext
 obtain⟨u,rfl,bR⟩:=y.ext
 have lD:∀b o,s.heap.get? b=some o→b∉J→b∉J++t:=fun b o e h q=>by
  rcases List.mem_append.mp q with q|q
  ·exact h q
  ·exact absurd (Heap.lt_size e) (Nat.not_lt.mpr (bg b q))
 refine⟨⟨t++u,by simp,fun a aP=> ?_⟩,fun b o e ag ah aE a7=>y.keep b o (x.keep b o e ag ah aE a7) (lD b o e ag) ah aE a7,fun b o e ag ah aE=> ?_,Nat.le_trans x.size y.size,y.gens.trans x.gens,y.os.trans x.os⟩
 ·rcases List.mem_append.mp aP with q|q
  ·exact bg a q
  ·exact Nat.le_trans x.size (bR a q)
 ·obtain⟨f3,ak⟩:=x.up b o e ag ah aE
  obtain⟨BV,bW⟩:=y.up b _ ak (lD b o e ag) ah aE
  exact⟨BV,bW⟩
theorem cS.drop(x:cS own bX J aw s s')(h:∀b,b∈own→s.heap.objs.size≤b):cS [] bX J aw s s':=
 ⟨x.ext,fun b o e ag _ aE a7=>x.keep b o e ag (fun q=>absurd (Heap.lt_size e) (Nat.not_lt.mpr (h b q))) aE a7,fun b o e ag _ aE=>x.up b o e ag (fun q=>absurd (Heap.lt_size e) (Nat.not_lt.mpr (h b q))) aE,x.size,x.gens,x.os⟩
theorem cS.weaken(x:cS [] bX J aw s s'):cS own bX J aw s s':=⟨x.ext,fun b o e ag _ aE a7=>x.keep b o e ag (by simp) aE a7,fun b o e ag _ aE=>x.up b o e ag (by simp) aE,x.size,x.gens,x.os⟩
theorem cS.mg(x:cS own bX J aw s s'){a:Addr}(h:a∉J)(aP:a<s.heap.objs.size):a∉aw:=by
 obtain⟨t,rfl,bg⟩:=x.ext
 intro q
 rcases List.mem_append.mp q with q|q
 ·exact h q
 ·exact absurd aP (Nat.not_lt.mpr (bg a q))
theorem cS.ou(x:cS [] bX J aw s s')(I:aX c J H s)(f:dx c J s bX):∀b o,s.heap.get? b=some o→fi o→s'.heap.get? b=some o:=
 fun b o e z=>x.keep b o e (fun q=>I.iG q e z) (by simp) z.r5 fun q=>f.iG q e z
theorem cS.lk(x:cS own bX J aw s s'):∀(l:Nat) (a:Addr),J[l]?=some a→aw[l]?=some a:=by
 obtain⟨t,rfl,_⟩:=x.ext
 intro l a e
 rw[List.getElem?_append_left (List.getElem?_eq_some_iff.mp e).1];exact e
theorem aC.oQ(x:cS [] bX J aw s s')(I:aX c J H s)(f:dx c J s bX){v:V}{w:Value}(r:aC s.heap J v w):aC s'.heap aw v w:=aC.mono (x.ou I f) x.lk v r
theorem cS.cell(x:cS [] bX J aw s s')(I:aX c J H s){a:Addr}{v:Option Value}(q:s.heap.IsCell a v):s'.heap.IsCell a v:=by
 have aP:=I.mf q
 obtain⟨o,aT,hd⟩:=q
 obtain⟨f3,e⟩:=x.up a o aT aP (by simp) (by rw[hd];intro _ q;cases q)
 exact⟨_,e,hd⟩
theorem dm.oQ(F:dm c nm fr J σ s)(I:aX c J H s)(x:cS [] bX J aw s s')(f:dx c J s bX):dm c nm fr aw σ s':=by
 obtain⟨m,aD,bH,aR⟩:=F.loc
 refine⟨fun a aP=> ?_,m,?_,?_,fun i v e=> ?_⟩
 ·obtain⟨ag,ah,o,aE,a7⟩:=F.own a aP
  obtain⟨f3,e⟩:=x.up a o aE ag (by simp) (by rcases a7 with⟨_,_,q⟩|⟨_,q⟩<;>rw[q]<;>intro _ z<;>cases z)
  exact⟨x.mg ag (Heap.lt_size aE),ah,_,e,a7⟩
 ·obtain⟨o,av,ep,aT,hd,r⟩:=aD
  obtain⟨f3,e⟩:=x.up _ o aT bH (by simp) (by rw[hd];intro _ q;cases q)
  exact⟨_,av,ep,e,hd,r⟩
 ·obtain⟨o,av,ep,aT,_⟩:=aD
  exact x.mg bH (Heap.lt_size aT)
 ·obtain⟨y,gv,ag,ah,aE⟩:=aR i v e
  refine⟨y,gv,ag,?_,aE.oQ x I f⟩
  rcases ah with ah|⟨ah,b4,a7,cj⟩
  ·exact .inl ah
  ·exact .inr ⟨ah,b4,a7,x.cell I cj⟩
theorem b_.oQ(bD:b_ c nm fr J σ H s)(c4:aX c aw H' s')(x:cS [] bX J aw s s')(f:dx c J s bX):b_ c nm fr aw σ H' s':=
 ⟨c4,bD.f.oQ bD.h x f,bD.n.L,fun y aQ=>by
  obtain⟨ag,b4,v,ah,aE,a7⟩:=bD.n.cl y aQ
  exact⟨ag,b4,v,ah,x.cell bD.h aE,a7⟩,bD.n.apart⟩
theorem dx.oQ{fL:List Addr}(f:dx c J s fL)(x:cS [] bX J aw s s'):dx c aw s' fL:=fun L bH=>by
 obtain⟨ag,ah,o,av,k,aE,a7⟩:=f L bH
 obtain⟨f3,e⟩:=x.up L o aE ag (by simp) (by rw[a7];intro _ q;cases q)
 exact⟨x.mg ag (Heap.lt_size aE),ah,_,av,k,e,a7⟩
end
noncomputable def d'(l:List Env):List Addr:=l.filterMap (·.frame)
noncomputable def nZ(l:List Env):Prop:=∀e∈l,e.scope.kind= .function∧e.frame=some e.locals
section
variable{c:a9}{nm:a5}{fr:cX}{outer:List Env}
theorem nZ.ai(aL:dw nm fr)(e8:fr.env.frame=some fr.env.locals)(iB:nZ outer):nZ (fr.env::outer):=fun z hz=>(List.mem_cons.mp hz).elim (fun h=>h▸⟨aL.kind,e8⟩) (iB z)
theorem EB(e8:fr.env.frame=some fr.env.locals):d' (fr.env::outer)=fr.env.locals::d' outer:=by unfold d';rw[List.filterMap_cons,e8]
theorem dx.ai(e8:fr.env.frame=some fr.env.locals){J:List Addr}{σ:aN}{H:ao}{s:Shared}(bD:b_ c nm fr J σ H s)(f:dx c J s (d' outer)):dx c J s (d' (fr.env::outer)):=by
 rw[EB e8]
 refine fun L bH=>(List.mem_cons.mp bH).elim (fun h=> ?_) (f L)
 subst h
 obtain⟨m,⟨o,av,ep,aT,hd,_⟩,aD,_⟩:=bD.f.loc
 exact⟨aD,(bD.f.own _ bD.n.L).2.1,o,av,ep,aT,hd⟩
theorem cS.AK(e8:fr.env.frame=some fr.env.locals)(bH:fr.env.locals∈fr.own){cy ct:List Addr}{s1 s2:Shared}(x:cS fr.own (d' (fr.env::outer)) cy ct s1 s2):cS fr.own (d' outer) cy ct s1 s2:=
 ⟨x.ext,fun b o e g1 g2 g3 fy=>x.keep b o e g1 g2 g3 (EB e8▸fun z=>(List.mem_cons.mp z).elim (fun z=>g2 (z▸bH)) fy),fun b o e g1 g2 g3=>x.up b o e g1 g2 g3,x.size,x.gens,x.os⟩
end
section
variable{c:a9}
theorem DI(ok:c.Ok){f:Addr}{nm:a5}{k:Nat}{j0:Stmt}{uQ:Expr}{x:Str}{p q8 pos Ao:Pos}{sV:List Expr}{bb:List a0}
 (eD:FnAt c f nm 1 [j0, .If uQ [.Raise (some (.Call (.Name x p) sV [] q8)) none pos] [] Ao]) {j8:b9} {j9:cK} (h0:eC c nm (k+2) j0 j8) (bg:h9 c nm (k+2) uQ j9)
 {C jL:Addr} (Y:mJ c.K C "told" jL) {dT dC ig mj:Pos} (rl:FnAt c jL [("self", .local),("told", .local)] 2 [.Assign [.Attribute (.Name "self" dT) "told" dC] (.Name "told" ig) mj])
 (hf:bA c nm (k+2) (.Name x p) (aj (.st (.ref C)))) (aU:Callee c (.ref C)) (aP:f7 c nm (k+2) sV bb)
 {J:List Addr} {H:ao} {s:Shared} {b:V} {vals:List Value} (I:aX c J H s) (r:bL s.heap J [b] vals) {A:Around} (a:cz (k+3) A)
 {outer:List Env} (gD:A.frames=some outer) (iB:nZ outer) (gS:dx c J s (d' outer)) {R:Result→Shared→Prop}
 {b3:aN} {H1 aG:ao} (Nc:j8 (f_ [b]) H=some (.next,b3,H1)) {m2:Bool} (y3:j9 b3 H1=some (m2,aG))
 (UO:m2=false→∀aw s',aX c aw aG s'→Step [] J aw s s'→R (.ok (.ret .none)) s')
 {v:V} {H3:ao} (ku:m2=true→eH bb b3 aG=some ([v],H3))
 (UP:m2=true→∀aw s' e bv,aX c aw H3 s'→cS [] (d' outer) J aw s s'→gP c C aw (d' outer) v s' e bv .none→e∉aw→s.heap.objs.size≤bv→R (.error (.ref e)) s'):
 codeAny (model c.prog c.w) A (.call (.ref f) ⟨vals,[]⟩) R s:=by
 refine xi ok eD I r rfl a fun fr s1 aL g8 bo e8 ly a1=> ?_
 refine wpAny_execs_cons (h0 fr aL J (f_ [b]) H s1 g8 _ _ _ Nc _ a1 _ _ fun ct s2 f2 hA bB bN=> ?_)
 cases bN
 refine wpAny_execs_cons (wpAny_If (bg fr aL ct b3 H1 s2 hA.h hA.f _ _ y3 _ a1 _ _ fun ec s3 c0 cB=> ?_))
 have kf:b_ c nm fr ec b3 aG s3:=hA.step c0 cB
 have fu:Step fr.own J ec s s3:=(bo.weaken.trans bB).trans cB.weaken
 have stN:Step [] J ec s s3:=⟨fu.ext,fun b o e h _=>fu.ey b o e h fun q=>absurd (Heap.lt_size e) (Nat.not_lt.mpr (ly b q)),fu.size,fu.gens,fu.os⟩
 cases m2 with
 |false=>
  refine wpAny_execs_nil (wpAny_execs_nil ?_)
  exact UO rfl ec s3 c0 stN
 |true=>
  refine wpAny_execs_cons (U5 ok Y rl hf aU aP aL kf.h kf.f (ku rfl) a1 fun fh s4 e si=> ?_)
  have kv:dx c ec s3 (d' (fr.env::outer)):=dx.ai e8 kf (gS.step stN)
  obtain⟨bv,bU,Q3⟩:=si.held kv
  have f4:=kv.step si.st
  have fc:=iB.ai aL e8
  refine SH si.inv (Around.frames_deeper gD) (fun z hz=>(fc z hz).1) (fun z hz=>(fc z hz).2) f4 bU.st fun ax n bj=> ?_
  have hP:cS [fr.env.locals] (d' outer) fh fh s4 {s4 with heap:=ax}:=⟨⟨[],by simp⟩,fun b o e _ ah aE a7=>n.keep b o e aE (by
   rw[List.filterMap_cons,e8]
   intro q
   rcases List.mem_cons.mp q with q|q
   ·exact ah (by rw[q];exact .head _)
   ·exact a7 q),fun b o e _ _ aE=>n.up b o e aE,n.size,rfl,rfl⟩
  have se:cS [] (d' outer) J fh s {s4 with heap:=ax}:=(((cS.jv stN).weaken.trans (cS.jv si.st).weaken).trans hP).drop fun b az=>by
   rw[List.mem_singleton] at az;subst az;exact ly _ kf.n.L
  exact UP rfl fh _ e bv (si.inv.ie n f4) se ((bU.ie bj n f4).less fun L bH=>by
   unfold d';rw[List.filterMap_cons,e8];exact .tail _ bH) si.off (Nat.le_trans stN.size Q3)
end
theorem cz.mark{k:Nat}{A:Around}(a:cz k A)(h:Option Value):cz 0 (A.mark h):=⟨by have:=a.1;show A.depth+3*0<990;omega,by have:=a.2.1;show A.units+100*0<9800;omega,a.2.2.1,fun z=>absurd z (by decide)⟩
theorem kb.step{c:a9}{J aw:List Addr}{H:ao}{s s':Shared}{C e bv:Addr}{a3:Value}(x:kb c.base C e bv a3 s.heap)(I:aX c J H s)(st:Step [] J aw s s'):kb c.base C e bv a3 s'.heap:=by
 have lD:∀b o vs,s.heap.get? b=some o→o.data= .fields vs→b∉J:=fun b o vs h hd q=>(I.mut q h).r5 vs hd
 obtain⟨jS,fW,vs,he,aU,jQ,hd,r⟩:=x
 refine⟨jS,fW,vs,st.ey _ _ he (lD _ _ _ he hd) (by simp),aU,jQ,hd,?_⟩
 rcases r with r|⟨T,lF,be,ag,ah,aE,a7,cj,iU⟩
 ·exact .inl r
 ·exact .inr ⟨T,lF,be,ag,ah,aE,st.ey _ _ a7 (lD _ _ _ a7 cj) (by simp),cj,iU⟩
theorem gP.step{c:a9}{J aw:List Addr}{H:ao}{s s':Shared}{C e bv:Addr}{a3:Value}{v:V}{bX:List Addr}(x:gP c C J bX v s e bv a3)(I:aX c J H s)(st:Step [] J aw s s'):gP c C aw bX v s' e bv a3:=by
 obtain⟨bt,bU,k,u,ah,aE⟩:=x.told
 exact⟨x.st.step I st,⟨bt,bU,k,u,st.ey _ _ ah x.off.1 (by simp),aE.step I st⟩,st.mg x.off.1 (Heap.lt_size ah),x.off.2⟩
theorem gP.uO{c:a9}{nm:a5}{fr:cX}{J aw:List Addr}{σ:aN}{H:ao}{s s':Shared}{C e bv:Addr}{a3:Value}{v:V}{bX:List Addr}(x:gP c C J bX v s e bv a3)(bD:b_ c nm fr J σ H s)(st:Step fr.own J aw s s')(tM:bv∉fr.own):gP c C aw bX v s' e bv a3:=by
 have lD:∀b o vs,s.heap.get? b=some o→o.data= .fields vs→b∉J:=fun b o vs h hd q=>(bD.h.mut q h).r5 vs hd
 have I3:∀b o,s.heap.get? b=some o→(∀av n,o.data≠ .dict av n)→(∀v,o.data≠ .cell v)→b∉fr.own:=fun b o h ag ah q=>by
  obtain⟨_,_,cF,aT,hd⟩:=bD.f.own b q
  rw[h] at aT;cases aT
  rcases hd with⟨av,n,hd⟩|⟨v,hd⟩
  ·exact ag av n hd
  ·exact ah v hd
 have ug:∀b o vs,s.heap.get? b=some o→o.data= .fields vs→b∉fr.own:=fun b o vs h hd=>I3 b o h (by rw[hd];intro _ _ q;cases q) (by rw[hd];intro _ q;cases q)
 have tA:∀b o,s.heap.get? b=some o→fi o→s'.heap.get? b=some o:=fun b o h f=>st.ey b o h (fun q=>bD.h.iG q h f) (I3 b o h
  (by rcases f with⟨_,_,_,q⟩|q<;>rw[q]<;>intro _ _ z<;>cases z) (by rcases f with⟨_,_,_,q⟩|q<;>rw[q]<;>intro _ z<;>cases z))
 obtain⟨bt,bU,k,u,ah,aE⟩:=x.told
 obtain⟨jS,fW,vs,he,aU,jQ,hd,r⟩:=x.st
 refine⟨⟨jS,fW,vs,st.ey _ _ he (lD _ _ _ he hd) (ug _ _ _ he hd),aU,jQ,hd,?_⟩,⟨bt,bU,k,u,st.ey _ _ ah x.off.1 tM,aC.mono tA st.lk _ aE⟩,?_,x.off.2⟩
 ·rcases r with r|⟨T,lF,be,ag,ah,aE,a7,cj,iU⟩
  ·exact .inl r
  ·exact .inr ⟨T,lF,be,ag,ah,aE,st.ey _ _ a7 (lD _ _ _ a7 cj) (ug _ _ _ a7 cj),cj,iU⟩
 ·obtain⟨t,rfl,bg⟩:=st.ext
  intro q
  rcases List.mem_append.mp q with q|q
  ·exact x.off.1 q
  ·exact absurd (Heap.lt_size ah) (Nat.not_lt.mpr (bg _ q))
section
variable{c:a9}{nm:a5}{k:Nat}
theorem MU(ok:c.Ok){C jL:Addr}(Y:mJ c.K C "told" jL)(ag:instIn c.K (.ref C) (.type "tuple")=some false){fr:cX}(aL:dw nm fr)(e8:fr.env.frame=some fr.env.locals){outer:List Env}(iB:nZ outer)
 {A:Around} (a:cz k A) (gD:A.frames=some (fr.env::outer)) {J:List Addr} {σ:aN} {H:ao} {s:Shared} (bD:b_ c nm fr J σ H s) (f:dx c J s (d' (fr.env::outer))) {v:V} {e bv:Addr}
 (bU:gP c C J (d' (fr.env::outer)) v s e bv .none) (he:e∉J) (tM:bv∉fr.own) {x:Str} {np aH:Pos} (bg:bA c nm 0 (.Name x np) (aj (.st (.ref C)))) (dG:(nm.map (·.1)).Nodup) {i:Nat} {n:Str} (aD:nm[i]?=some (n, .local))
 {yL:Stmt} {body:List Stmt} {Q:Flow→Shared→Prop} {E:Value→Shared→Prop}
 (q:∀aw s' Lu,b_ c nm fr aw (upd σ i (.st (.ref e))) H s'→cS fr.own (d' (fr.env::outer)) J aw s s'→gP c C aw (d' (fr.env::outer)) v s' e bv .none→
  wpAny (model c.prog c.w) (A.mark (some (.ref e))) (execs (yL::body) fr.env) (fun a3 xO=>wpAny (model c.prog c.w) A (do bindName fr.env n .none;unbindBehindTheSuite fr.env n aH) (fun _ B4=>Q a3 B4) E xO) Lu s'):
 wpAny (model c.prog c.w) A (noteFrame (.ref e) fr.env) (fun _ xO=>wpAny (model c.prog c.w) A (setFlight (.ref e) none) (fun _ B4=>
  wpAny (model c.prog c.w) A (handleBy (.ref e) fr.env [.ExceptHandler (some (.Name x np)) (some n) (yL::body) aH]) Q E B4) E xO) E s:=by
 have fc:∀z∈fr.env::outer,z.scope.kind= .function∧z.frame=some z.locals:=fun z hz=>by
  rcases List.mem_cons.mp hz with rfl|hz
  ·exact⟨aL.kind,e8⟩
  ·exact iB z hz
 refine I1 gD (f.frames (fun z hz=>(fc z hz).1) (fun z hz=>(fc z hz).2)) e8 bD.h.keep bU.st fun wj cZ a6=> ?_
 have g8:=bD.ie cZ f
 have f1:=f.ie cZ
 have zS:=bU.ie a6 cZ f
 refine zr (d' (fr.env::outer)) a6 fun X0 c' bj=> ?_
 have hA:=g8.ie c' f1
 have f2:=f1.ie c'
 have FF:=zS.ie bj c' f1
 refine wpAny_handleBy_cons (codeAny_handlers_test (bg.at aL hA.h hA.f rfl (a.mark _) fun ec s3 Cd c0 jE cB fq=> ?_)) (by intro q;cases q)
 obtain rfl:=fq.my
 have tP:=FF.step hA.h cB
 have kv:=f2.step cB
 have kf:b_ c nm fr ec σ H s3:=hA.step c0 cB
 obtain⟨_,fW,vs,g1,g2,_⟩:=id tP.st
 refine Os (ok.K.keeps c0.keep) Y.toExcCls g1 g2 ag ?_
 refine codeAny_handlers_suite_as (zr (d' (fr.env::outer)) tP.st fun wk me dK=> ?_)
 have sL:=kf.ie me kv
 have f4:=kv.ie me
 have QL:=tP.ie dK me kv
 refine sf aL dG aD (.inl rfl) sL (v:= .st (.ref e)) (w:= .ref e) (by rw[aC]) fun s5 yj fR=> ?_
 have QM:gP c C ec (d' (fr.env::outer)) v s5 e bv .none:=QL.uO sL fR tM
 have se:cS fr.own (d' (fr.env::outer)) J ec s s5:=
  ((((cS.Bp cZ).trans (cS.Bp c')).trans (cS.jv cB.weaken)).trans (cS.Bp me)).trans (cS.jv fR)
 exact wpAny_mono (q ec s5 _ yj se QM) (fun _ _ z=>z) (fun _ _ z=>z)
end
section
variable{c:a9}{nm:a5}
theorem WJ(ok:c.Ok){C jL:Addr}(Y:mJ c.K C "told" jL)(dh:mroIn c.K C (.type "BaseException")=some true){J:List Addr}{H:ao}{s:Shared}(I:aX c J H s){bX:List Addr}{v:V}{e bv:Addr}(bU:gP c C J bX v s e bv .none)(aR:kP v=true)(pQ:eW c C "told")
 {A:Around} {Q:Value→Shared→Prop} {E:Value→Shared→Prop} {expr:Bool} (q:∀u,aC s.heap J v u→Q u {s with toks:=s.toks+1}):wpAny (model c.prog c.w) A (getAttr (.ref e) "told" expr) Q E s:=by
 obtain⟨bt,aY,n,u,ah,aE⟩:=bU.told
 obtain⟨jS,fW,vs,g1,g2,g3,fy,_⟩:=bU.st
 have n2:W.InstAt s.heap e fW C (some (df [⟨aY, .str "told" bt,u⟩] n)):=⟨g1,g2,by unfold notCls;rw[fy],by rw[g3];exact ah⟩
 have cL:hasDictIn c.K C=true:=by
  obtain⟨cd,B,qE,Le,hX⟩:=Y.cls
  unfold hasDictIn;rw[qE];exact hX
 refine PG (ok.K.keeps I.keep) n2 Y.get Y.hook dh (v:=u) ?_ (handed aE aR) (q u aE)
 refine findObj_own cL pQ rfl ?_
 show lookIn "told" (dictOf [⟨aY, .str "told" bt,u⟩] n)=_
 rw[lookIn_dict]
 unfold getL;rw[List.find?_cons];simp[Value.isStr]
end
section
variable{c:a9}{nm:a5}
theorem Om(ok:c.Ok){C jL:Addr}(Y:mJ c.K C "told" jL)(dh:mroIn c.K C (.type "BaseException")=some true){fr:cX}(aL:dw nm fr){J:List Addr}{σ:aN}{H:ao}{s:Shared}(I:aX c J H s)(F:dm c nm fr J σ s)
 {bX:List Addr} {v:V} {e bv:Addr} (bU:gP c C J bX v s e bv .none) (aR:kP v=true) (pQ:eW c C "told") {n:Str} {i4 lG:Pos} {i:Nat} (aD:bA c nm 0 (.Name n i4) (aa i)) (gE:σ i=some (.st (.ref e)))
 (az:∀env whole,attributeBase (.Name n i4) "told" env whole=whole) {A:Around} (a:cz 0 A) {Q:Value→Shared→Prop} {E:Value→Shared→Prop}
 (q:∀aw s' u,aX c aw H s'→dm c nm fr aw σ s'→Step [] J aw s s'→aC s'.heap aw v u→Q u s'):wpAny (model c.prog c.w) A (eval (.Attribute (.Name n i4) "told" lG) fr.env) Q E s:=by
 show wpAny _ _ (do
  let hM←attributeBase (.Name n i4) "told" fr.env (eval (.Name n i4) fr.env)
  standAt lG.atName
  let r←holding [hM] (getAttr hM "told" true)
  letTemporaryGo (.Name n i4) hM r
  pure r) Q E s
 rw[az]
 have d:aa i σ H=some (.st (.ref e),H):=by unfold aa;rw[gE];rfl
 refine wpAny_bind (aD.at aL I F d a fun cy s1 mE br dO bo bl=>wpAny_bind (wpAny_standAt (wpAny_bind (wpAny_holding ?_))))
 obtain rfl:=bl.my
 have zS:=bU.step I bo
 refine WJ ok Y dh br zS aR pQ fun u mn=>wpAny_bind (wpAny_letTemporaryGo (wpAny_pure ?_))
 exact q cy _ u br.toks dO.toks (bo.trans .toks) mn
end
section
variable{c:a9}{nm:a5}
theorem MN(ok:c.Ok){C jL:Addr}(Y:mJ c.K C "told" jL)(dh:mroIn c.K C (.type "BaseException")=some true){fr:cX}(aL:dw nm fr){J:List Addr}{σ:aN}{H:ao}{s:Shared}(I:aX c J H s)(F:dm c nm fr J σ s)
 {bX:List Addr} {v:V} {e bv:Addr} (bU:gP c C J bX v s e bv .none) (aR:kP v=true) (pQ:eW c C "told") {n:Str} {i4 lG pt ux uw ml:Pos} {i:Nat} (aD:bA c nm 0 (.Name n i4) (aa i)) (gE:σ i=some (.st (.ref e)))
 (az:∀env whole,attributeBase (.Name n i4) "told" env whole=whole) {A:Around} (a:cz 0 A) {ak bW:Expr} {dY dc:a0} (ag:bA c nm 0 ak dY) (ah:bA c nm 0 bW dc) (bg:bA c nm 0 (.Name "tuple" pt) (aj (.st (.type "tuple")))) (aU:Callee c (.type "tuple"))
 (hm:behindInMarks .Eq bW=false) {r:V} {H':ao} (d:gz false [dY,eP .Eq (aO hI [aj v]) dc] σ H=some (r,H')) {Q:Value→Shared→Prop} {E:Value→Shared→Prop}
 (q:∀aw s' w,aX c aw H' s'→Step [] J aw s s'→aC s'.heap aw r w→Q w s'):
 wpAny (model c.prog c.w) A (eval (.BoolOp .And [ak, .Compare (.Call (.Name "tuple" pt) [.Attribute (.Name n i4) "told" lG] [] ux) [.Eq] [bW] uw] ml) fr.env) Q E s:=by
 refine dp d fun u H1 cL d=>bQ d fun b zO d=> ?_
 show wpAny _ _ (do
  let v←eval ak fr.env
  standAt ml
  let t←holding [v] (truthy v)
  match BoolOp.And,t with
  | .And,false| .Or,true=>pure v
  |_,_=>boolOp ml .And (evalEach [.Compare (.Call (.Name "tuple" pt) [.Attribute (.Name n i4) "told" lG] [] ux) [.Eq] [bW] uw] fr.env)) _ _ _
 refine wpAny_bind (ag.at aL I F cL a fun cy s1 c1 br dO bo bl=>wpAny_bind (wpAny_standAt (wpAny_bind (wpAny_holding (uU zO bl ?_)))))
 cases b with
 |false=>exact wpAny_pure (KE.of d q cy s1 c1 br bo bl)
 |true=>
  refine tc (show eP .Eq (aO hI [aj v]) dc σ H1=some (r,H')from d) fun x aG y dU c_ PQ tI aZ=> ?_
  show wpAny _ _ (eval (.Compare (.Call (.Name "tuple" pt) [.Attribute (.Name n i4) "told" lG] [] ux) [.Eq] [bW] uw) fr.env) _ _ _
  refine wpAny_Compare1 (Call_Name rfl (bg.at aL br dO rfl a fun ct s2 dE bx eO bB bN=> ?_)) hm
  rw[bN.my]
  refine aU rfl (evalArgs_plain (spliced_cons (Om ok Y dh aL bx eO ((bU.step I bo).step br bB) aR pQ aD gE az a fun ec s3 Cd c0 jE cB fq=>spliced_nil ⟨c0.keep,?_⟩)))
  refine xF ec _ s3 [v] _ c0 (.one fq) _ _ c_ A a _ _ fun fh s4 Yo h5 hP i7=>ah.at aL h5 (jE.step c0 hP) PQ a fun lO s5 Yp n1 XT fR nz=> ?_
  exact qA ok n1 tI (i7.step h5 fR) nz a.room fun bt=>q lO _ _ n1.toks ((((bo.trans bB).trans cB).trans hP).trans fR|>.trans .toks) (aZ▸ .oF)
end
section
variable{c:a9}{nm:a5}{fr:cX}{J aw:List Addr}{σ:aN}{H:ao}{s s':Shared}
theorem b_.O6(bD:b_ c nm fr J σ H s)(st:Step fr.own J aw s s'):∀b o,s.heap.get? b=some o→fi o→s'.heap.get? b=some o:=by
 intro b o h f
 refine st.ey b o h (fun q=>bD.h.iG q h f) fun q=> ?_
 obtain⟨_,_,cF,aT,hd⟩:=bD.f.own b q
 rw[h] at aT;cases aT
 exact uv hd f
theorem aC.uO(bD:b_ c nm fr J σ H s)(st:Step fr.own J aw s s'){v:V}{w:Value}(r:aC s.heap J v w):aC s'.heap aw v w:=aC.mono (bD.O6 st) st.lk v r
theorem PL(aL:dw nm fr)(dG:(nm.map (·.1)).Nodup){i:Nat}{n:Str}(aD:nm[i]?=some (n, .local)){aH:Pos}(bD:b_ c nm fr J σ H s){M:Model}{A:Around}{Q:Unit→Shared→Prop}{E:Value→Shared→Prop}
 (q:∀s',b_ c nm fr J (fun _=>none) H s'→Step fr.own J J s s'→Q () s'):
 wpAny M A (do bindName fr.env n .none;unbindBehindTheSuite fr.env n aH) Q E s:=by
 obtain⟨m,nh,bH,_⟩:=bD.f.loc
 refine wpAny_nameGoes (aL.lc n (lookup_at dG aD)) nh (by rw[aL.kind];rfl) fun ax m' pV eu=> ?_
 refine q _ ⟨(bD.zN eu bD.n.L).toks,⟨?_,m',pV,bH,fun i v e=>cn e⟩,bD.n.L,fun y aQ=> ?_,bD.n.apart⟩ ((b_.B2 eu bD.n.L).trans .toks)
 ·obtain⟨cF,av,ep,aT,hd,_⟩:=pV
  exact bD.Bs eu aT (.inl ⟨av,ep,hd⟩)
 ·obtain⟨ag,b4,v,ah,aE,a7⟩:=bD.n.cl y aQ
  exact⟨ag,b4,v,ah,IsCell.of_get aE fun o e=>(eu.2 _ (Ns.xg nh aE)).trans e,a7⟩
end
noncomputable def vp(c:a9)(nm:a5)(k:Nat)(st:Stmt)(D:b9):Prop:=
 ∀(fr:cX),dw nm fr→fr.env.frame=some fr.env.locals→∀(outer:List Env),nZ outer→(∀L∈d' outer,L∉fr.own)→∀(J:List Addr) (σ:aN) (H:ao) (s:Shared),b_ c nm fr J σ H s→dx c J s (d' outer)→
  ∀a3 ba H',D σ H=some (a3,ba,H')→∀(A:Around),cz k A→A.frames=some (fr.env::outer)→∀(Q:Flow→Shared→Prop) (E:Value→Shared→Prop),
   (∀aw s' f,b_ c nm fr aw ba H' s'→cS fr.own (d' outer) J aw s s'→kc s'.heap aw a3 f→Q f s')→wpAny (model c.prog c.w) A (exec st fr.env) Q E s
noncomputable def vq(c:a9)(nm:a5)(k:Nat)(st:List Stmt)(D:b9):Prop:=
 ∀(fr:cX),dw nm fr→fr.env.frame=some fr.env.locals→∀(outer:List Env),nZ outer→(∀L∈d' outer,L∉fr.own)→∀(J:List Addr) (σ:aN) (H:ao) (s:Shared),b_ c nm fr J σ H s→dx c J s (d' outer)→
  ∀a3 ba H',D σ H=some (a3,ba,H')→∀(A:Around),cz k A→A.frames=some (fr.env::outer)→∀(Q:Flow→Shared→Prop) (E:Value→Shared→Prop),
   (∀aw s' f,b_ c nm fr aw ba H' s'→cS fr.own (d' outer) J aw s s'→kc s'.heap aw a3 f→Q f s')→wpAny (model c.prog c.w) A (execs st fr.env) Q E s
theorem eC.x{c:a9}{nm:a5}{k:Nat}{st:Stmt}{D:b9}(h:eC c nm k st D):vp c nm k st D:=
 fun fr aL _ outer _ _ J σ H s bD _ a3 ba H' d A a _ Q E q=>h fr aL J σ H s bD a3 ba H' d A a Q E fun aw s' f jg eL r=>q aw s' f jg (.jv eL) r
theorem dx.uO{c:a9}{J aw own bX fL:List Addr}{s s':Shared}(f:dx c J s fL)(x:cS own bX J aw s s')(h:∀L∈fL,L∉own):dx c aw s' fL:=fun L bH=>by
 obtain⟨ag,ah,o,av,k,aE,a7⟩:=f L bH
 obtain⟨f3,e⟩:=x.up L o aE ag (h L bH) (by rw[a7];intro _ q;cases q)
 exact⟨x.mg ag (Heap.lt_size aE),ah,_,av,k,e,a7⟩
theorem f6.uo{c:a9}{nm:a5}{fr:cX}{bX:List Addr}{J:List Addr}{s:Shared}{Q:Flow→Shared→Prop}{p r:mL×aN×ao}(e:some p=some r)
 (q:∀aw s' f,b_ c nm fr aw r.2.1 r.2.2 s'→cS fr.own bX J aw s s'→kc s'.heap aw r.1 f→Q f s'):∀aw s' f,b_ c nm fr aw p.2.1 p.2.2 s'→cS fr.own bX J aw s s'→kc s'.heap aw p.1 f→Q f s':=Option.some.inj e▸q
theorem J6{c:a9}{nm:a5}{k:Nat}:vq c nm k [] aI:=
 fun _ _ _ _ _ _ J _ _ s bD _ _ _ _ d _ _ _ _ _ q=>wpAny_execs_nil (f6.uo d q J s _ bD (.jv .refl) rfl)
theorem i9{c:a9}{nm:a5}{k:Nat}{st:Stmt}{r:List Stmt}{D R:b9}(h:vp c nm k st D)(aZ:vq c nm k r R):vq c nm k (st::r) (aq D R):=by
 intro fr aL hf outer iB pP J σ H s bD gS a3 ba H' d A a gD Q E q
 refine pq d fun f1 b3 H1 cL d=>wpAny_execs_cons (h fr aL hf outer iB pP J σ H s bD gS _ _ _ cL A a gD _ E fun aw s' f jg eL da=> ?_)
 cases f1 with
 |next=>
  cases da
  exact aZ fr aL hf outer iB pP aw b3 H1 s' jg (gS.uO eL pP) _ _ _ d A a gD Q E fun gx fd pC LC ij qd=>q gx fd pC LC (eL.trans ij) qd
 |ret v=>
  obtain⟨w,rfl,cR⟩:=da
  exact f6.uo d q aw s' _ jg eL ⟨w,rfl,cR⟩
noncomputable def pg(c:a9)(k:Nat)(f:Addr)(F:bz):Prop:=
 ∀(J:List Addr) (H:ao) (s:Shared) (args:List V) (vals:List Value),aX c J H s→bL s.heap J args vals→∀v H',F args H=some (v,H')→
  ∀(A:Around),cz k A→∀(outer:List Env),A.frames=some outer→nZ outer→dx c J s (d' outer)→∀(R:Result→Shared→Prop),
   (∀aw s' w,aX c aw H' s'→cS [] (d' outer) J aw s s'→aC s'.heap aw v w→R (.ok (.ret w)) s')→codeAny (model c.prog c.w) A (.call (.ref f) ⟨vals,[]⟩) R s
theorem JZ{c:a9}(ok:c.Ok){f:Addr}{nm:a5}{np:Nat}{body:List Stmt}(eD:FnAt c f nm np body){k:Nat}{D:b9}(az:vq c nm k body D):pg c (k+1) f (cD np D):=by
 intro J H s args vals I r v H' d A a outer gD iB gS R q
 refine c3 d fun hlen d=>pq d fun a3 ba H1 cL d=>xi ok eD I r hlen a fun fr s1 aL g8 bo e8 ly a1=> ?_
 have pP:∀L∈d' outer,L∉fr.own:=fun L bH h=>by
  obtain⟨_,_,o,_,_,aT,_⟩:=gS L bH
  exact absurd (Heap.lt_size aT) (Nat.not_lt.mpr (ly L h))
 refine az fr aL e8 outer iB pP J (f_ args) H s1 g8 (gS.step bo) _ _ _ cL _ a1 (Around.frames_deeper gD) _ _ fun aw s' v' jg eL da=> ?_
 have st:cS [] (d' outer) J aw s s':=((cS.jv bo).weaken.trans eL).drop ly
 have q:∀(p:V×ao),some p=some (v,H')→∀w,aX c aw p.2 s'→aC s'.heap aw p.1 w→R (.ok (.ret w)) s':=fun p e w=>by cases e;exact fun i r=>q aw s' w i st r
 cases a3 with
 |next=>cases da;exact q _ d _ jg.h .mkNone
 |ret u=>obtain⟨w,rfl,cR⟩:=da;exact q _ d _ jg.h cR
noncomputable def vQ(Da:a0)(j8:b9)(j9:cK)(bb:List a0)(dY dc:a0):b9:=cC Da fun b σ dR=>ra j8 (fun a3 b3 H1=>match a3 with
 | .next=>cC j9 (fun m2 b3 aG=>match m2 with
  |false=>some (.next,σ,aG)
  |true=>cC (eH bb) (fun vs _ H3=>(kl vs).bind fun v=>if kP v=true then(gz false [dY,eP .Eq (aO hI [aj v]) dc] σ H3).map fun p=>(.ret p.1,(fun _=>none),p.2)else none) b3 aG) b3 H1
 | .ret _=>none) (f_ [b]) dR
section
variable{c:a9}{nm:a5}{k:Nat}
theorem V0(ok:c.Ok){f:Addr}{nmc:a5}{j0:Stmt}{uQ:Expr}{x:Str}{p q8 pos Ao:Pos}{sV:List Expr}{bb:List a0}
 (eD:FnAt c f nmc 1 [j0, .If uQ [.Raise (some (.Call (.Name x p) sV [] q8)) none pos] [] Ao]) {j8:b9} {j9:cK} (h0:eC c nmc (k+2) j0 j8) (bg:h9 c nmc (k+2) uQ j9)
 {C jL:Addr} (Y:mJ c.K C "told" jL) {dT dC ig mj:Pos} (rl:FnAt c jL [("self", .local),("told", .local)] 2 [.Assign [.Attribute (.Name "self" dT) "told" dC] (.Name "told" ig) mj])
 (hf:bA c nmc (k+2) (.Name x p) (aj (.st (.ref C)))) (aU:Callee c (.ref C)) (aP:f7 c nmc (k+2) sV bb)
 {y:Str} {qG uY Lg:Pos} {Cq:Expr} {Da:a0} (aQ:bA c nm (k+3) (.Name y qG) (aj (.st (.ref f)))) (tL:Callee c (.ref f)) (Ry:f7 c nm (k+3) [Cq] [Da])
 (z9:∀env,swapsWith (.Call (.Name y qG) [Cq] [] uY) none Lg.line env=pure false)
 (Q4:instIn c.K (.ref C) (.type "tuple")=some false) (dh:mroIn c.K C (.type "BaseException")=some true) (pQ:eW c C "told")
 {i:Nat} {n:Str} (aD:nm[i]?=some (n, .local)) (dG:(nm.map (·.1)).Nodup) (dB:(n==("__debug__":Str))=false) (Q2:(n==("__classdict__":Str))=false)
 {DL aH j3 eb i4 lG pt ux uw ml:Pos} (af:bA c nm 0 (.Name x DL) (aj (.st (.ref C))))
 (az:∀env whole,attributeBase (.Name n i4) "told" env whole=whole) {ak bW:Expr} {dY dc:a0} (ag:bA c nm 0 ak dY) (ah:bA c nm 0 bW dc) (Rq:bA c nm 0 (.Name "tuple" pt) (aj (.st (.type "tuple"))))
 (hm:behindInMarks .Eq bW=false) (cZ:∀σ v H,dY (upd σ i v) H=dY σ H) (c':∀σ v H,dc (upd σ i v) H=dc σ H):
 vp c nm (k+3) (.Try [.Expr (.Call (.Name y qG) [Cq] [] uY) Lg]
  [.ExceptHandler (some (.Name x DL)) (some n) [.Return (some (.BoolOp .And [ak, .Compare (.Call (.Name "tuple" pt) [.Attribute (.Name n i4) "told" lG] [] ux) [.Eq] [bW] uw] ml)) eb] aH] [] [] j3) (vQ Da j8 j9 bb dY dc):=by
 intro fr aL e8 outer iB pP J σ H s bD gS a3 ba H' d A a gD Q E q
 have wa:∀{aw:List Addr} {XN:aN} {yg:ao} {s':Shared},b_ c nm fr aw XN yg s'→dx c aw s' (d' outer)→dx c aw s' (d' (fr.env::outer)):=dx.ai e8
 refine dp d fun b dR PS d=>pq d fun f0 b3 H1 Fg d=> ?_
 cases f0 with
 |ret _=>exact cn d
 |next=>
 refine dp d fun m2 aG Fi d=>wpAny_Try_except (wpAny_execs_cons (wpAny_Expr_any (yR aQ tL Ry aL bD.h bD.f (DU PS) a fun cy s1 ws br bo bl=>wpAny_call ?_) (Gj aL) (z9 _)))
 have g8:=bD.step br bo
 have f1:=gS.step bo
 cases m2 with
 |false=>
  refine DI ok eD h0 bg Y rl hf aU aP br bl a gD (iB.ai aL e8) (wa g8 f1) Fg Fi (fun _ ct s2 bx bB=> ?_) (v:= .none) (H3:=H1) (fun z=>nomatch z) (fun z=>nomatch z)
  exact wpAny_execs_nil (wpAny_execs_nil (f6.uo d q ct s2 _ (g8.step bx bB) ((cS.jv bo.weaken).trans (cS.jv bB.weaken)) rfl))
 |true=>
  refine dp d fun vs H3 Fj d=>bQ d fun v aR d=>c3 d fun nh d=>dq d fun p PR e=> ?_
  rw[Dl aR] at Fj
  refine DI ok eD h0 bg Y rl hf aU aP br bl a gD (iB.ai aL e8) (wa g8 f1) Fg Fi (fun z=>nomatch z) (v:=v) (H3:=H3) (fun _=>Fj) (fun _ ct s2 jK bv bx bB bU he jQ=> ?_)
  have hA:b_ c nm fr ct σ H3 s2:=g8.oQ bx bB (wa g8 f1)
  have f2:dx c ct s2 (d' outer):=f1.oQ bB
  have tM:bv∉fr.own:=fun z=>by
   obtain⟨_,_,o,aT,_⟩:=g8.f.own bv z
   exact absurd (Heap.lt_size aT) (Nat.not_lt.mpr jQ)
  refine MU ok Y Q4 aL e8 iB a gD hA (wa hA f2) bU he tM af dG aD fun ec s3 XS kf cB tP=>wpAny_execs_cons (wpAny_Return_some ?_)
  have Qu:gz false [dY,eP .Eq (aO hI [aj v]) dc] (upd σ i (.st (.ref jK))) H3=some p:=by
   rw[←PR]
   show(dY (upd σ i _) H3).bind _=(dY σ H3).bind _
   rw[cZ]
   refine congrArg _ (funext fun q=>congrArg _ (funext fun b=> ?_))
   show(if _ then _ else(Option.bind _ fun z=>Option.bind (dc _ _) _))=(if _ then _ else(Option.bind _ fun z=>Option.bind (dc _ _) _))
   simp only[c'];rfl
  refine MN ok Y dh aL kf.h kf.f tP nh pQ (ac i (by unfold nameAt;rw[aD,dB,Q2];rfl)) (if_pos rfl) az (a.mark _) ag ah Rq (q7 "tuple") hm Qu fun fh s4 w h5 hP i7=> ?_
  have sL:=kf.step h5 hP
  refine PL aL dG aD sL fun s5 yj fR=>f6.uo (congrArg some e.symm) q fh s5 _ yj ?_ ⟨w,rfl,i7.uO sL fR⟩
  exact((((cS.jv bo.weaken).trans (bB.weaken.AK e8 bD.n.L)).trans (cB.AK e8 bD.n.L)).trans (cS.jv hP.weaken)).trans (cS.jv fR)
end
section
variable{c:a9}{nm:a5}{k:Nat}
theorem VV{y:Str}{qG uY ml eb:Pos}{args:List Expr}{bb:List a0}{f:Addr}{F:bz}(aQ:bA c nm k (.Name y qG) (aj (.st (.ref f))))(tL:Callee c (.ref f))(aP:f7 c nm k args bb)(fz:pg c k f F)
 {bW:Expr} {dc:a0} (ah:bA c nm k bW dc):
 vp c nm k (.Return (some (.BoolOp .And [.Call (.Name y qG) args [] uY,bW] ml)) eb) (bS (gz false [aO F bb,dc])):=by
 intro fr aL e8 outer iB pP J σ H s bD gS a3 ba H' d A a gD Q E q
 refine dp d fun r H1 dh e=>dp dh fun u aG PX dh=>bQ dh fun b zO dh=>dp PX fun vs dR cL PZ=>wpAny_Return_some ?_
 show wpAny _ _ (do
  let v←eval (.Call (.Name y qG) args [] uY) fr.env
  standAt ml
  let t←holding [v] (truthy v)
  match BoolOp.And,t with
  | .And,false| .Or,true=>pure v
  |_,_=>boolOp ml .And (evalEach [bW] fr.env)) _ _ _
 refine wpAny_bind (yR aQ tL aP aL bD.h bD.f cL a fun cy s1 ws br bo bl=>wpAny_call ?_)
 have g8:=bD.step br bo
 have f1:=gS.step bo
 refine fz cy dR s1 vs ws br bl u aG PZ A a (fr.env::outer) gD (iB.ai aL e8) (dx.ai e8 g8 f1) _ fun ct s2 w bx bB bN=> ?_
 have hA:b_ c nm fr ct σ aG s2:=g8.oQ bx bB (dx.ai e8 g8 f1)
 have se:cS fr.own (d' outer) J ct s s2:=(cS.jv bo.weaken).trans (bB.weaken.AK e8 bD.n.L)
 have q:=f6.uo e q
 refine wpAny_bind (wpAny_standAt (wpAny_bind (wpAny_holding (uU zO bN ?_))))
 cases b with
 |false=>
  refine lK dh fun e aR=>wpAny_pure (q ct s2 _ (e▸hA) se ⟨w,rfl,aR▸bN⟩)
 |true=>
  show wpAny _ _ (eval bW fr.env) _ _ _
  exact ah.at aL hA.h hA.f dh a fun ec s3 qD c0 jE cB fq=>q ec s3 _ (hA.step c0 cB) (se.trans (cS.jv cB.weaken)) ⟨qD,rfl,fq⟩
end
theorem pg.le{c:a9}{k gV:Nat}{f:Addr}{F:bz}(h:pg c k f F)(aB:k≤gV):pg c gV f F:=
 fun J H s args vals I r v H' d A a=>h J H s args vals I r v H' d A (a.le aB)
theorem I_{α:Type}(xs:List α){a b:Nat}(h:b≤xs.length):((List.range (b - a)).map (a+ ·)).filterMap (fun x=>xs[x]?)=(xs.take b).drop a:=by
 by_cases rt:a≤b
 ·have:=PySem.StrLaws.picks xs (b - a) a (by omega)
  rw[←List.drop_take] at this
  exact this
 ·have:b - a=0:=by omega
  rw[this]
  simp;omega
theorem Bu{α:Type}(xs:List α)(n:Nat):Mine.picks xs none (some (n:Int)) none=xs.take n:=by
 have az:sliceBounds none (some (n:Int)) none xs.length=(0,((min n xs.length:Nat):Int),1):=by
  unfold sliceBounds
  simp only[Option.getD_none]
  refine Prod.ext rfl (Prod.ext ?_ rfl)
  have:¬(n:Int)<0:=by omega
  simp only[this,if_false]
  simp
  omega
 unfold Mine.picks
 rw[az]
 show(sliceRange ((0:Nat):Int) ((min n xs.length:Nat):Int) 1).filterMap _=_
 rw[sliceRange_one,I_ xs (Nat.min_le_right _ _)]
 simp
theorem I9{α:Type}(xs:List α)(n:Nat):Mine.picks xs (some (n:Int)) none none=xs.drop n:=by
 have az:sliceBounds (some (n:Int)) none none xs.length=(((min n xs.length:Nat):Int),(xs.length:Int),1):=by
  unfold sliceBounds
  simp only[Option.getD_none]
  refine Prod.ext ?_ (Prod.ext rfl rfl)
  have:¬(n:Int)<0:=by omega
  simp only[this,if_false]
  simp
  omega
 unfold Mine.picks
 rw[az]
 show(sliceRange ((min n xs.length:Nat):Int) ((xs.length:Nat):Int) 1).filterMap _=_
 rw[sliceRange_one,I_ xs (Nat.le_refl _),List.take_length]
 by_cases h:n≤xs.length
 ·rw[Nat.min_eq_left h]
 ·rw[Nat.min_eq_right (by omega),List.drop_length,List.drop_of_length_le (by omega)]
theorem Uo{α:Type}(xs:List α):Mine.picks xs none none (some (-1))=xs.reverse:=by
 have az:sliceBounds none none (some (-1)) xs.length=((xs.length:Int) - 1, -1, -1):=by
  unfold sliceBounds;rfl
 unfold Mine.picks
 rw[az]
 show(sliceRange ((xs.length:Int) - 1) (-1) (-1)).filterMap _=_
 have aZ:sliceRange ((xs.length:Int) - 1) (-1) (-1)=(List.range xs.length).map fun k=>xs.length - 1 - k:=by
  unfold sliceRange
  have ag:¬((-1:Int)>0):=by decide
  simp only[ag,if_false]
  by_cases af:xs.length=0
  ·rw[af];rfl
  ·have ah:((xs.length:Int) - 1> -1):=by omega
   simp only[ah,if_true]
   have aE:(((xs.length:Int) - 1 - -1 - -1 - 1) / - -1).toNat=xs.length:=by
    rw[Int.neg_neg,Int.ediv_one];omega
   rw[aE]
   refine List.map_congr_left fun k aB=> ?_
   rw[List.mem_range] at aB
   omega
 rw[aZ]
 refine List.ext_getElem? fun i=> ?_
 rw[List.filterMap_map]
 have:(List.range xs.length).filterMap ((fun x=>xs[x]?)∘fun k=>xs.length - 1 - k)=(List.range xs.length).filterMap (fun k=>xs.reverse[k]?):=by
  have key:∀(l:List Nat),(∀k∈l,k<xs.length)→l.filterMap ((fun x=>xs[x]?)∘fun k=>xs.length - 1 - k)=l.filterMap (fun k=>xs.reverse[k]?):=by
   intro l
   induction l with
   |nil=>intro _;rfl
   |cons k l aK=>
    intro h
    have aB:xs.reverse[k]?=xs[xs.length - 1 - k]?:=List.getElem?_reverse (h k (by simp))
    rw[List.filterMap_cons,List.filterMap_cons,aK fun j bM=>h j (List.mem_cons_of_mem _ bM),aB];rfl
  exact key _ fun k aB=>List.mem_range.mp aB
 rw[this]
 have a7:=PySem.StrLaws.picks xs.reverse xs.length 0 (by simp)
 have cj:((List.range xs.length).map fun k=>0+k)=List.range xs.length:=by simp
 rw[cj] at a7
 rw[show(fun k=>xs.reverse[k]?)=(xs.reverse[·]?)from rfl,a7]
 simp[List.take_of_length_le]
structure vg(c:a9)(a:Addr)(ns:List Int):Prop where
 at':∃vs:List Value,c.base.IsList a vs.toArray∧∀h J,bL h J (ns.map .int) vs
 oq:ns.length≤1000
noncomputable def yK:V→Option Addr| .st (.ref b)=>some b|_=>none
theorem Dp{v:V}{b:Addr}(e:yK v=some b):v= .st (.ref b):=by
 cases v with
 |st w=>cases w<;>first|exact cn e|exact congrArg (fun b=>V.st (.ref b)) (Option.some.inj e)
 |_=>exact cn e
noncomputable def y1(i:Nat)(a:Addr)(ns:List Int):a0:=fun σ H=>(σ i).bind fun v=>(yK v).bind fun b=>if b=a then some (.loc H.length,H++[.list ((ns.take 30).map .int)])else none
section
variable{c:a9}{nm:a5}{k:Nat}
theorem VX(ok:c.Ok){a:Addr}{ns:List Int}(aP:vg c a ns){i:Nat}{x:Str}{jw p pc pos:Pos}{fc:Nat}(af:bA c nm k (.Name x jw) (aa i)):
 bA c nm k (.Subscript (.Name x jw) (.Slice none (some (.Constant (.int 30) fc pc)) none p) pos) (y1 i a ns):=by
 intro fr aL J σ H s I F v H' d A vw Q E q
 refine bQ d fun u gE d=>bQ d fun b az d=>c3 d fun Qg e=> ?_
 subst Qg
 have cC:aa i σ H=some (.st (.ref b),H):=by unfold aa;rw[gE,Dp az];rfl
 refine Subscript_ (af.at aL I F cC vw fun cy s1 c1 br dO bo bl=>wpAny_Slice (sa aL .none br dO (r:=none) (H':=H) rfl vw fun ct s2 dE bx eO bB bN=>sa aL (.some bn) bx eO (r:=some 30) (H':=H) rfl vw fun ec s3 qD c0 jE cB fq=>sa aL .none c0 jE (r:=none) (H':=H) rfl vw fun fh s4 Xm h5 Lv hP i7=> ?_))
 rw[bl.my]
 obtain⟨vs,⟨o,aT,r⟩,rs⟩:=aP.at'
 have Ra:picks (ns.map V.int) none (some 30) none=(ns.take 30).map .int:=by
  rw[show(some (30:Int))=some ((30:Nat):Int)from rfl,Bu,List.map_take]
 exact GX (r:=(v,H')) (lo:=none) (hi:=some 30) (st:=none) h5 ⟨o,h5.keep _ _ aT,r⟩ (rs _ _) (Nat.le_trans (Nat.le_of_eq (List.length_map _)) aP.oq) (fun z:(none:Option Int)=some 0=>nomatch z) (Ra.symm▸e) bN fq i7 (fun a b=>⟨[b,a],rfl⟩) fun lO s5 Cl n1 fR nz=>q lO s5 Cl n1 ((((bo.trans bB).trans cB).trans hP).trans fR) nz
end
noncomputable def MT(nm c2:a5)(caps:List (Nat×Nat)):Bool:=
 caps.all (fun p=>(c2[p.1]?).any fun a=>a.2== .free&&(nm[p.2]?).any fun b=>a.1==b.1&&(b.2== .cell||b.2== .free))&&(List.range c2.length).all (fun j=>(c2[j]?).all fun a=> !(a.2== .free)||caps.any (fun p=>p.1==j))
theorem iS{nm c2:a5}{caps:List (Nat×Nat)}(h:MT nm c2 caps=true):hY nm c2 caps:=by
 have⟨ag,ah⟩:=Bool.and_eq_true_iff.mp h
 refine⟨fun p aH=> ?_,fun j x bM=> ?_⟩
 ·have h:=List.all_eq_true.mp ag p aH
  cases ak:c2[p.1]? with
  |none=>rw[ak] at h;exact nomatch h
  |some a=>
   rw[ak] at h
   have⟨aE,h⟩:=Bool.and_eq_true_iff.mp h
   cases bW:nm[p.2]? with
   |none=>rw[bW] at h;exact nomatch h
   |some b=>
    rw[bW] at h
    have⟨a7,h⟩:=Bool.and_eq_true_iff.mp h
    exact⟨a.1,b.2,congrArg some (congrArg (Prod.mk a.1) (beq_iff_eq.mp aE)),congrArg some (congrArg (·,b.2) (beq_iff_eq.mp a7).symm),(Bool.or_eq_true_iff.mp h).imp beq_iff_eq.mp beq_iff_eq.mp⟩
 ·have h:=List.all_eq_true.mp ah j (List.mem_range.mpr (List.getElem?_eq_some_iff.mp bM).1)
  rw[bM] at h
  have h:(!(NameKind.free==NameKind.free)||caps.any fun p=>p.1==j)=true:=h
  obtain⟨p,aH,e⟩:=List.any_eq_true.mp ((Bool.or_eq_true_iff.mp h).resolve_left fun q=>nomatch q)
  exact⟨p.2,(beq_iff_eq.mp e)▸aH⟩
theorem kI{c:a9}{nm:a5}{k:Nat}{e:Expr}{x:Str}{av:List (Option Expr)}{xs:List Str}(h:bA c nm k e (aj (.str x)))(r:iO (og c) nm k av xs):iO (og c) nm k (some e::av) (x::xs):= .cons h r
theorem R6{c:a9}{nm:a5}{k:Nat}{e:Expr}{x:Int}{av:List (Option Expr)}{xs:List Int}(h:bA c nm k e (aj (.int x)))(r:iO (tj c) nm k av xs):iO (tj c) nm k (some e::av) (x::xs):= .cons h r
noncomputable def oe:a0:=fun _ _=>none
noncomputable def vM:cK:=fun _ _=>none
noncomputable def DW:b9:=fun _ _=>none
theorem qo{c:a9}{nm:a5}{k:Nat}{e:Expr}:bA c nm k e oe:=fun _ _ _ _ _ _ _ _ _ _ d=>cn d
theorem BN{c:a9}{nm:a5}{k:Nat}{e:Expr}:h9 c nm k e vM:=fun _ _ _ _ _ _ _ _ _ _ d=>cn d
theorem VK{c:a9}{nm:a5}{k:Nat}{e:Stmt}:eC c nm k e DW:=fun _ _ _ _ _ _ _ _ _ _ d=>cn d
theorem len0{α:Type}{l:List α}(h:l.length=0):l=[]:=List.length_eq_zero_iff.mp h
theorem p8{α:Type}{n:Nat}{P:List α→Prop}(k:∀a r,r.length=n→P (a::r)):∀{l:List α},l.length=n+1→P l
 |a::r,h=>k a r (Nat.succ.inj h)
 |[],h=>nomatch h
section
variable{α:Type}{P:List α→Prop}{l:List α}
theorem rK(k:∀a,P [a]):l.length=1→P l:=p8 fun a r h=>len0 h▸k a
theorem rL(k:∀a b,P [a,b]):l.length=2→P l:=p8 fun a r=>rK (P:=fun r=>P (a::r)) (k a)
theorem GS(k:∀a b c,P [a,b,c]):l.length=3→P l:=p8 fun a r=>rL (P:=fun r=>P (a::r)) (k a)
theorem GT(k:∀a b c d,P [a,b,c,d]):l.length=4→P l:=p8 fun a r=>GS (P:=fun r=>P (a::r)) (k a)
theorem GU(k:∀a b c d e,P [a,b,c,d,e]):l.length=5→P l:=p8 fun a r=>GT (P:=fun r=>P (a::r)) (k a)
theorem SK(k:∀a b c d e f,P [a,b,c,d,e,f]):l.length=6→P l:=p8 fun a r=>GU (P:=fun r=>P (a::r)) (k a)
theorem SL(k:∀a b c d e f g,P [a,b,c,d,e,f,g]):l.length=7→P l:=p8 fun a r=>SK (P:=fun r=>P (a::r)) (k a)
end
theorem ix{s:Shared}{F:FuncData}{xs:List Str}{vs:List Value}(k:∀a,BindsTo s F ⟨[a],[]⟩ (xs.zip [a])):vs.length=1→BindsTo s F ⟨vs,[]⟩ (xs.zip vs):=rK (P:=fun v=>BindsTo s F ⟨v,[]⟩ (xs.zip v)) k
theorem gj{s:Shared}{F:FuncData}{xs:List Str}{vs:List Value}(k:∀a b,BindsTo s F ⟨[a,b],[]⟩ (xs.zip [a,b])):vs.length=2→BindsTo s F ⟨vs,[]⟩ (xs.zip vs):=rL (P:=fun v=>BindsTo s F ⟨v,[]⟩ (xs.zip v)) k
theorem ko{s:Shared}{F:FuncData}{xs:List Str}{vs:List Value}(k:∀a b c,BindsTo s F ⟨[a,b,c],[]⟩ (xs.zip [a,b,c])):vs.length=3→BindsTo s F ⟨vs,[]⟩ (xs.zip vs):=GS (P:=fun v=>BindsTo s F ⟨v,[]⟩ (xs.zip v)) k
theorem q3{s:Shared}{F:FuncData}{xs:List Str}{vs:List Value}(k:∀a b c d,BindsTo s F ⟨[a,b,c,d],[]⟩ (xs.zip [a,b,c,d])):vs.length=4→BindsTo s F ⟨vs,[]⟩ (xs.zip vs):=GT (P:=fun v=>BindsTo s F ⟨v,[]⟩ (xs.zip v)) k
theorem MP{s:Shared}{F:FuncData}{xs:List Str}{vs:List Value}(k:∀a b c d e,BindsTo s F ⟨[a,b,c,d,e],[]⟩ (xs.zip [a,b,c,d,e])):vs.length=5→BindsTo s F ⟨vs,[]⟩ (xs.zip vs):=GU (P:=fun v=>BindsTo s F ⟨v,[]⟩ (xs.zip v)) k
theorem MQ{s:Shared}{F:FuncData}{xs:List Str}{vs:List Value}(k:∀a b c d e f g,BindsTo s F ⟨[a,b,c,d,e,f,g],[]⟩ (xs.zip [a,b,c,d,e,f,g])):vs.length=7→BindsTo s F ⟨vs,[]⟩ (xs.zip vs):=SL (P:=fun v=>BindsTo s F ⟨v,[]⟩ (xs.zip v)) k
noncomputable def cI(C:Nat)(name:Str)(F:bz):Sel:=fun v H=>(vB v).bind fun p=>if p.1=C then(lW H[p.2]?).bind fun ps=>if(cH name ps).isNone=true then some (F,true)else none else none
theorem fe{c:a9}{k:Nat}(ok:c.Ok){C f:Nat}{name:Str}{F:bz}(c9:ClsAt c C)(hm:MethAt c C name f)(h:ck c k f F):mW c k name (cI C name F):=
 fun v H vd b e=>bQ e fun p aH e=>c3 e fun zJ e=>bQ e fun ps au e=>c3 e fun aD e=>by
  cases e
  exact⟨_,bJ ok hm.2.2,yJ aH▸zJ▸VN ok c9 hm (pj au) (Option.isNone_iff_eq_none.mp aD),h.call⟩
noncomputable def qn(s t:Sel):Sel:=fun v H=>match s v H with
 |some r=>some r
 |none=>t v H
theorem Vv{c:a9}{k:Nat}{name:Str}{s t:Sel}(aY:mW c k name s)(bg:mW c k name t):mW c k name (qn s t):=by
 intro v H F b e
 unfold qn at e
 cases aZ:s v H with
 |none=>rw[aZ] at e;exact bg v H F b e
 |some r=>rw[aZ] at e;exact aY v H F b (aZ.trans e)
noncomputable def JP(C:Nat)(F:bz):Sel:=fun v _=>(yK v).bind fun Cy=>if Cy=C then some (F,false)else none
theorem Vw{c:a9}{k:Nat}(ok:c.Ok){C f:Nat}{name:Str}{F:bz}(hm:∀H,qV c k (.st (.ref C)) H name (.ref f) false)(aB:keepIn c.K (.ref f)=true)(h:ck c k f F):mW c k name (JP C F):=
 fun v H vd b e=>bQ e fun Cy c9 e=>c3 e fun zJ e=>by
  cases e
  exact⟨_,bJ ok aB,Dp c9▸zJ▸hm H,h.call⟩
section
variable{c:a9}{nm:a5}{k:Nat}
@[irreducible]noncomputable def m4(xs:List Str)(bb:List a0):a0:=DT xs bb
@[irreducible]noncomputable def tm(xs:List Int)(bb:List a0):a0:=DS xs bb
@[irreducible]noncomputable def tn(ps:List (Str×Str)):a0:=vO ps
theorem BL{keys:List (Option Expr)}{values:List Expr}{pos:Pos}{xs:List Str}{bb:List a0}(aB:iO (og c) nm k keys xs)(aR:kj c nm k values bb)(au:xs.length=bb.length:=by rfl)(ng:keys.length=values.length:=by rfl)(h0:keys≠[]:=by nofun)(hlen:keys.length≤15:=by decide):
 bA c nm k (.Dict keys values pos) (m4 xs bb):=by unfold m4;exact VG aB aR au ng h0 hlen
theorem VH{keys:List (Option Expr)}{values:List Expr}{pos:Pos}{xs:List Int}{bb:List a0}(aB:iO (tj c) nm k keys xs)(aR:kj c nm k values bb)(au:xs.length=bb.length:=by rfl)(ng:keys.length=values.length:=by rfl)(h0:keys≠[]:=by nofun)(hlen:keys.length≤15:=by decide):
 bA c nm k (.Dict keys values pos) (tm xs bb):=by unfold tm;exact VF aB aR au ng h0 hlen
theorem VI(ok:c.Ok){keys:List (Option Expr)}{values:List Expr}{pos:Pos}{ps:List (Str×Str)}(h:mI keys values ps)(hz:ps.length≤400:=by decide):bA c nm k (.Dict keys values pos) (tn ps):=by unfold tn;exact VM ok h hz
end
noncomputable def nX:bz:=cD 2 (aq (bT 2 (aj (.int 0))) (aq (bT 3 (aO iC [(aa 0)])) (aq (vR (bq .Lt (aa 2) (aa 3)) (aq (bT 4 (bI .FloorDiv (bI .Add (aa 2) (aa 3)) (aj (.int 2)))) (aq (b8 (bq .LtE (bG (aa 0) (aa 4)) (aa 1)) (aq (bT 2 (bI .Add (aa 4) (aj (.int 1)))) aI) (aq (bT 3 (aa 4)) aI)) aI))) (aq (bS (bI .Sub (aa 2) (aj (.int 1)))) aI))))
noncomputable def j':bz:=cD 2 (aq (bS (gz false [(eP .Eq (aa 0) (aa 1)),(eP .Eq (aO hH [(aa 0),(aj (.st (.type "bool")))]) (aO hH [(aa 1),(aj (.st (.type "bool")))]))])) aI)
noncomputable def sy:bz:=cD 2 (aq (dF 139 "default" (aa 0) (aa 1)) (aq (dF 139 "starts" (aa 0) (dList [(aj (.int 0))])) (aq (dF 139 "values" (aa 0) (dList [(aa 1)])) aI)))
noncomputable def u6:bz:=cD 2 (aq (bS (bG (bp 139 "values" (aa 0)) (aO nX [(bp 139 "starts" (aa 0)),(aa 1)]))) aI)
noncomputable def x_:bz:=cD 4 (aq (b8 (bq .Gt (aa 1) (aa 2)) (aq y0 aI) aI) (aq (bT 4 (bI .Add (aO nX [(bp 139 "starts" (aa 0)),(bI .Sub (aa 1) (aj (.int 1)))]) (aj (.int 1)))) (aq (bT 5 (bI .Add (aO nX [(bp 139 "starts" (aa 0)),(bI .Add (aa 2) (aj (.int 1)))]) (aj (.int 1)))) (aq (bT 6 (bG (bp 139 "values" (aa 0)) (bI .Sub (aa 5) (aj (.int 1))))) (aq (kt [7,8] (cQ [(dList [(aa 1)]),(dList [(aa 3)])])) (aq (b8 (ei [(bq .Lt (aa 2) (aj (.int 1114111))),(po (fx (aO j' [(aa 6),(aa 3)])))]) (aq (c8 (b5 (g4 hG) (aa 7) [(bI .Add (aa 2) (aj (.int 1)))])) (aq (c8 (b5 (g4 hG) (aa 8) [(aa 6)])) aI)) aI) (aq (b8 (ei [(bq .Gt (aa 4) (aj (.int 0))),(fx (aO j' [(bG (bp 139 "values" (aa 0)) (bI .Sub (aa 4) (aj (.int 1)))),(aa 3)]))]) (aq (kt [7,8] (cQ [(eX (aa 7) (some (aj (.int 1))) none none),(eX (aa 8) (some (aj (.int 1))) none none)])) aI) aI) (aq (dF 139 "starts" (aa 0) (bI .Add (bI .Add (eX (bp 139 "starts" (aa 0)) none (some (aa 4)) none) (aa 7)) (eX (bp 139 "starts" (aa 0)) (some (aa 5)) none none))) (aq (dF 139 "values" (aa 0) (bI .Add (bI .Add (eX (bp 139 "values" (aa 0)) none (some (aa 4)) none) (aa 8)) (eX (bp 139 "values" (aa 0)) (some (aa 5)) none none))) aI)))))))))
noncomputable def u':bz:=cD 1 (aq (kt [1,2] (cQ [(bp 139 "starts" (aa 0)),(dList [])])) (aq (dz (te (bp 139 "values" (aa 0))) (gM [3,4]) (aq (bT 5 (fb (bq .Lt (bI .Add (aa 3) (aj (.int 1))) (aO iC [(aa 1)])) (bI .Sub (bG (aa 1) (bI .Add (aa 3) (aj (.int 1)))) (aj (.int 1))) (aj (.int 1114111)))) (aq (c8 (b5 (g4 hG) (aa 2) [(cQ [(bG (aa 1) (aa 3)),(aa 5),(aa 4)])])) aI))) (aq (bS (aa 2)) aI)))
noncomputable def nU:bz:=cD 1 (aq (bS (ef [(3,0)] (cP (aO u' [(aa 0)])) (cx 1) (po (fx (aO j' [(bG (aa 1) (aj (.int 2))),(bp 139 "default" (aa 3))]))) (aa 1))) aI)
noncomputable def lQ:bz:=cD 3 (aq (b8 (ei [(bq .NotEq (aa 0) (dList [])),(bq .Eq (bG (bG (aa 0) (jn (aj (.int 1)))) (aj (.int 1))) (aa 2))]) (aq (gA (aa 0) (jn (aj (.int 1))) (cQ [(bI .Add (bG (bG (aa 0) (jn (aj (.int 1)))) (aj (.int 0))) (aa 1)),(aa 2)])) aI) (aq (c8 (b5 (g4 hG) (aa 0) [(cQ [(aa 1),(aa 2)])])) aI)) aI)
noncomputable def va:bz:=cD 2 (aq (dz (te (aa 0)) (gM [2,3]) (aq (b8 (fx (aO j' [(aa 3),(aa 1)])) (aq (bS (aa 2)) aI) aI) aI)) (aq (c8 (b5 (g4 hG) (aa 0) [(aa 1)])) (aq (bS (bI .Sub (aO iC [(aa 0)]) (aj (.int 1)))) aI)))
noncomputable def vb:bz:=cD 1 (aq (bT 1 (dList [])) (aq (bT 2 (dList [])) (aq (dz (cP (aO u' [(aa 0)])) (gM [3,4,5]) (aq (c8 (aO lQ [(aa 2),(bI .Add (bI .Sub (aa 4) (aa 3)) (aj (.int 1))),(aO va [(aa 1),(aa 5)])])) aI)) (aq (bS (cQ [(aa 1),(aa 2)])) aI))))
noncomputable def sz:bz:=cD 2 (aq (dF 188 "runs" (aa 0) (aa 1)) (aq (dF 188 "numbers" (aa 0) (dList [])) (aq (dz (cP (aa 1)) (gM [2,3]) (aq (c8 (b5 (g4 za) (bp 188 "numbers" (aa 0)) [(bI .Mult (dList [(aa 3)]) (aa 2))])) aI)) aI)))
noncomputable def sB:bz:=cD 2 (aq (dF 237 "size" (aa 0) (aa 1)) (aq (dF 237 "rows" (aa 0) (dList [])) (aq (dF 237 "known" (aa 0) (kq (.gI []))) (aq (dF 237 "found" (aa 0) (dList [])) (aq (dF 237 "begun" (aa 0) (dList [])) (aq (dF 237 "filled" (aa 0) (aj (.int 0))) aI))))))
noncomputable def qI:bz:=cD 2 (aq (bT 2 (aO hI [(aa 1)])) (aq (b8 (td true (aa 2) (bp 237 "known" (aa 0))) (aq (gA (bp 237 "known" (aa 0)) (aa 2) (aO iC [(bp 237 "rows" (aa 0))])) (aq (c8 (b5 (g4 hG) (bp 237 "rows" (aa 0)) [(aO (newD 188 sz) [(aa 1)])])) aI)) aI) (aq (bS (tg (bp 237 "known" (aa 0)) (aa 2))) aI)))
noncomputable def sA:bz:=cD 1 (aq (c8 (aO lQ [(bp 237 "found" (aa 0)),(aj (.int 1)),(b5 (cI 237 "row_number" qI) (aa 0) [(bp 237 "begun" (aa 0))])])) (aq (dF 237 "begun" (aa 0) (dList [])) (aq (dF 237 "filled" (aa 0) (aj (.int 0))) aI)))
noncomputable def oX:bz:=cD 3 (aq (bT 3 (aa 1)) (aq (vR (bq .Gt (aa 3) (aj (.int 0))) (aq (b8 (ei [(bq .Eq (bp 237 "filled" (aa 0)) (aj (.int 0))),(bq .GtE (aa 3) (bp 237 "size" (aa 0)))]) (aq (bT 4 (bI .FloorDiv (aa 3) (bp 237 "size" (aa 0)))) (aq (c8 (aO lQ [(bp 237 "found" (aa 0)),(aa 4),(b5 (cI 237 "row_number" qI) (aa 0) [(dList [(cQ [(bp 237 "size" (aa 0)),(aa 2)])])])])) (aq (bT 3 (bI .Sub (aa 3) (bI .Mult (aa 4) (bp 237 "size" (aa 0))))) aI))) (aq (bT 5 (aO tv [(aa 3),(bI .Sub (bp 237 "size" (aa 0)) (bp 237 "filled" (aa 0)))])) (aq (c8 (aO lQ [(bp 237 "begun" (aa 0)),(aa 5),(aa 2)])) (aq (dF 237 "filled" (aa 0) (bI .Add (bp 237 "filled" (aa 0)) (aa 5))) (aq (bT 3 (bI .Sub (aa 3) (aa 5))) (aq (b8 (bq .Eq (bp 237 "filled" (aa 0)) (bp 237 "size" (aa 0))) (aq (c8 (b5 (cI 237 "close" sA) (aa 0) [])) aI) aI) aI)))))) aI)) aI))
noncomputable def u7:bz:=cD 1 (aq (b8 (bq .Gt (bp 237 "filled" (aa 0)) (aj (.int 0))) (aq (c8 (b5 (cI 237 "put" oX) (aa 0) [(bI .Sub (bp 237 "size" (aa 0)) (bp 237 "filled" (aa 0))),(bG (bG (bp 237 "begun" (aa 0)) (jn (aj (.int 1)))) (aj (.int 1)))])) aI) aI) (aq (bS (bp 237 "found" (aa 0))) aI))
noncomputable def ye:bz:=cD 2 (aq (b8 (kr [(bq .Lt (aa 0) (aj (.int 1))),(bq .Lt (aa 1) (aj (.int 1))),(bq .Gt (bI .Add (aa 0) (aa 1)) (aj (.int 16)))]) (aq DW aI) aI) aI)
noncomputable def x8:bz:=cD 7 (aq (dF 307 "low_bits" (aa 0) (aa 1)) (aq (dF 307 "mid_bits" (aa 0) (aa 2)) (aq (dF 307 "values" (aa 0) (aa 3)) (aq (dF 307 "lows" (aa 0) (aa 4)) (aq (dF 307 "mids" (aa 0) (aa 5)) (aq (dF 307 "top" (aa 0) (aa 6)) aI))))))
noncomputable def u5:bz:=cD 3 (aq (c8 (aO ye [(aa 1),(aa 2)])) (aq (pv [3,4] (aO vb [(aa 0)])) (aq (bT 5 (aO (newD 237 sB) [(bI .LShift (aj (.int 1)) (aa 1))])) (aq (dz (cP (aa 4)) (gM [6,7]) (aq (c8 (b5 (cI 237 "put" oX) (aa 5) [(aa 6),(aa 7)])) aI)) (aq (bT 8 (aO (newD 237 sB) [(bI .LShift (aj (.int 1)) (aa 2))])) (aq (dz (cP (b5 (cI 237 "finish" u7) (aa 5) [])) (gM [6,7]) (aq (c8 (b5 (cI 237 "put" oX) (aa 8) [(aa 6),(aa 7)])) aI)) (aq (bS (aO (newD 307 x8) [(aa 1),(aa 2),(aa 3),(bp 237 "rows" (aa 5)),(bp 237 "rows" (aa 8)),(aO (newD 188 sz) [(b5 (cI 237 "finish" u7) (aa 8) [])])])) aI)))))))
noncomputable def x7:bz:=cD 2 (aq (bT 2 (bG (bp 307 "mids" (aa 0)) (bG (bp 188 "numbers" (bp 307 "top" (aa 0))) (bI .RShift (aa 1) (bI .Add (bp 307 "low_bits" (aa 0)) (bp 307 "mid_bits" (aa 0))))))) (aq (bT 3 (bG (bp 307 "lows" (aa 0)) (bG (bp 188 "numbers" (aa 2)) (bI .BitAnd (bI .RShift (aa 1) (bp 307 "low_bits" (aa 0))) (bI .Sub (bI .LShift (aj (.int 1)) (bp 307 "mid_bits" (aa 0))) (aj (.int 1))))))) (aq (bS (bG (bp 307 "values" (aa 0)) (bG (bp 188 "numbers" (aa 3)) (bI .BitAnd (aa 1) (bI .Sub (bI .LShift (aj (.int 1)) (bp 307 "low_bits" (aa 0))) (aj (.int 1))))))) aI)))
noncomputable def x':bz:=cD 0 (aq (bT 0 (m4 ["gc","ccc","bc","lb","ea","sc","jt","incb"] [(aj (.str "Cn")),(aj (.int 0)),(aj (.str "L")),(aj (.str "XX")),(aj (.str "N")),(aj (.str "Zzzz")),(aj (.str "U")),(aj (.str "None"))])) (aq (dz (cP (cQ [(aj (.str "gcb")),(aj (.str "wb")),(aj (.str "sb"))])) (cx 1) (aq (gA (aa 0) (aa 1) (aj (.str "Other"))) aI)) (aq (dz (cP (cQ [(aj (.str "ex")),(aj (.str "sd")),(aj (.str "cased")),(aj (.str "ci")),(aj (.str "ep")),(aj (.str "di")),(aj (.str "ids")),(aj (.str "idc")),(aj (.str "xids")),(aj (.str "xidc")),(aj (.str "pat_syn")),(aj (.str "pat_ws")),(aj (.str "idst"))])) (cx 1) (aq (gA (aa 0) (aa 1) (aj (.bool false))) aI)) (aq (dz (cP (cQ [(aj (.str "dm")),(aj (.str "uc")),(aj (.str "lc")),(aj (.str "tc")),(aj (.str "cf")),(aj (.str "bm")),(aj (.str "bpb")),(aj (.str "scx")),(aj (.str "nt")),(aj (.str "nv")),(aj (.str "name")),(aj (.str "conf")),(aj (.str "nfkc_cf"))])) (cx 1) (aq (gA (aa 0) (aa 1) (aj .none)) aI)) (aq (dz (cP (cQ [(aj (.str "suc")),(aj (.str "slc")),(aj (.str "stc")),(aj (.str "alias"))])) (cx 1) (aq (gA (aa 0) (aa 1) (cQ [])) aI)) (aq (gA (aa 0) (aj (.str "idna")) (cQ [(aj (.str "disallowed")),(cQ [])])) (aq (bS (aa 0)) aI)))))))
noncomputable def sv:bz:=cD 1 (aq (dF 461 "defaults" (aa 0) (aO x' [])) (aq (dF 461 "maps" (aa 0) (kq (.aS []))) (aq (dF 461 "properties" (aa 0) (kq (.aS []))) (aq (dF 461 "words" (aa 0) (kq (.gd []))) aI))))
noncomputable def oW:bz:=cD 2 (aq (b8 (bq .NotIn (aa 1) (bp 461 "maps" (aa 0))) (aq (gA (bp 461 "maps" (aa 0)) (aa 1) (aO (newD 139 sy) [(b5 (qm pD) (bp 461 "defaults" (aa 0)) [(aa 1)])])) aI) aI) (aq (bS (bG (bp 461 "maps" (aa 0)) (aa 1))) aI))
noncomputable def nT:bz:=cD 5 (aq (c8 (b5 (cI 139 "put" x_) (b5 (cI 461 "map_of" oW) (aa 0) [(aa 1)]) [(aa 2),(aa 3),(aa 4)])) aI)
noncomputable def hZ:bz:=cD 3 (aq (b8 (bq .In (aa 1) (bp 461 "maps" (aa 0))) (aq (bS (b5 (cI 139 "get" u6) (bG (bp 461 "maps" (aa 0)) (aa 1)) [(aa 2)])) aI) aI) (aq (bS (b5 (qm pD) (bp 461 "defaults" (aa 0)) [(aa 1)])) aI))
noncomputable def x9:bz:=cD 3 (aq (dF 496 "defaults" (aa 0) (bp 461 "defaults" (aa 1))) (aq (dF 496 "maps" (aa 0) (bp 461 "maps" (aa 1))) (aq (dF 496 "properties" (aa 0) (bp 461 "properties" (aa 1))) (aq (dF 496 "words" (aa 0) (bp 461 "words" (aa 1))) (aq (dF 496 "tries" (aa 0) (aa 2)) aI)))))
noncomputable def jC:bz:=cD 3 (aq (b8 (bq .In (aa 1) (bp 496 "tries" (aa 0))) (aq (bS (b5 (cI 307 "get" x7) (bG (bp 496 "tries" (aa 0)) (aa 1)) [(aa 2)])) aI) aI) (aq (bS (b5 (qm pD) (bp 496 "defaults" (aa 0)) [(aa 1)])) aI))
noncomputable def sx:bz:=cD 2 (aq (bS (fb (bq .In (aa 1) (bp 496 "maps" (aa 0))) (bG (bp 496 "maps" (aa 0)) (aa 1)) (aO (newD 139 sy) [(b5 (qm pD) (bp 496 "defaults" (aa 0)) [(aa 1)])]))) aI)
noncomputable def sD:bz:=cD 3 (aq (bT 3 (kq (.aS []))) (aq (dz (cP (aO l5 [(bp 461 "maps" (aa 0))])) (cx 4) (aq (gA (aa 3) (aa 4) (b5 (JP 307 u5) (aj (.st (.ref 307))) [(bG (bp 461 "maps" (aa 0)) (aa 4)),(aa 1),(aa 2)])) aI)) (aq (bS (aO (newD 496 x9) [(aa 0),(aa 3)])) aI)))
noncomputable def sE:bz:=cD 2 (aq (bT 2 (aO (newD 461 sv) [])) (aq (dz (cP (cQ [(aa 0),(aa 1)])) (cx 3) (aq (dz (cP (aO l5 [(bp 461 "maps" (aa 3))])) (cx 4) (aq (dz (cP (b5 (cI 139 "ranges" nU) (bG (bp 461 "maps" (aa 3)) (aa 4)) [])) (gM [5,6,7]) (aq (c8 (b5 (cI 461 "put" nT) (aa 2) [(aa 4),(aa 5),(aa 6),(aa 7)])) aI)) aI)) (aq (q_ (bp 461 "properties" (aa 3))) (aq (q_ (bp 461 "words" (aa 3))) aI)))) (aq (bS (aa 2)) aI)))
noncomputable def k4:bz:=cD 1 (aq (bT 1 (dList [])) (aq (dz (cP (aa 0)) (cx 2) (aq (b8 (bq .NotIn (aa 2) (aj (.str " _-\t"))) (aq (c8 (b5 (g4 hG) (aa 1) [(fb (lj .LtE .LtE (aj (.str "A")) (aa 2) (aj (.str "Z"))) (aO vY [(bI .Add (aO oo [(aa 2)]) (aj (.int 32)))]) (aa 2))])) aI) aI) aI)) (aq (bS (b5 (uF zc) (aj (.str "")) [(aa 1)])) aI)))
noncomputable def sC:bz:=cD 2 (aq (bT 2 (aO k4 [(aa 1)])) (aq (b8 (bq .In (aa 2) (aa 0)) (aq (bS (bG (aa 0) (aa 2))) aI) aI) (aq (b8 (ei [(bq .Eq (eX (aa 2) none (some (aj (.int 2))) none) (aj (.str "is"))),(bq .In (eX (aa 2) (some (aj (.int 2))) none none) (aa 0))]) (aq (bS (bG (aa 0) (eX (aa 2) (some (aj (.int 2))) none none))) aI) aI) (aq (bS (aj .none)) aI))))
noncomputable def oD:List (Str×Str):=[(Str.ofString "gc",Str.ofString "gc"),(Str.ofString "generalcategory",Str.ofString "gc"),(Str.ofString "category",Str.ofString "gc"),(Str.ofString "ccc",Str.ofString "ccc"),(Str.ofString "canonicalcombiningclass",Str.ofString "ccc"),(Str.ofString "dm",Str.ofString "dm"),(Str.ofString "decompositionmapping",Str.ofString "dm"),(Str.ofString "ex",Str.ofString "ex"),(Str.ofString "fullcompositionexclusion",Str.ofString "ex"),(Str.ofString "compex",Str.ofString "ex"),(Str.ofString "uc",Str.ofString "uc"),(Str.ofString "simpleuppercasemapping",Str.ofString "uc"),(Str.ofString "lc",Str.ofString "lc"),(Str.ofString "simplelowercasemapping",Str.ofString "lc"),(Str.ofString "tc",Str.ofString "tc"),(Str.ofString "simpletitlecasemapping",Str.ofString "tc"),(Str.ofString "cf",Str.ofString "cf"),(Str.ofString "casefolding",Str.ofString "cf"),(Str.ofString "sd",Str.ofString "sd"),(Str.ofString "softdotted",Str.ofString "sd"),(Str.ofString "cased",Str.ofString "cased"),(Str.ofString "ci",Str.ofString "ci"),(Str.ofString "caseignorable",Str.ofString "ci"),(Str.ofString "bc",Str.ofString "bc"),(Str.ofString "bidiclass",Str.ofString "bc"),(Str.ofString "bm",Str.ofString "bm"),(Str.ofString "bidimirroringglyph",Str.ofString "bm"),(Str.ofString "bmg",Str.ofString "bm"),(Str.ofString "bpb",Str.ofString "bpb"),(Str.ofString "bidipairedbracket",Str.ofString "bpb"),(Str.ofString "gcb",Str.ofString "gcb"),(Str.ofString "graphemeclusterbreak",Str.ofString "gcb"),(Str.ofString "wb",Str.ofString "wb"),(Str.ofString "wordbreak",Str.ofString "wb"),(Str.ofString "sb",Str.ofString "sb"),(Str.ofString "sentencebreak",Str.ofString "sb"),(Str.ofString "incb",Str.ofString "incb"),(Str.ofString "indicconjunctbreak",Str.ofString "incb"),(Str.ofString "ep",Str.ofString "ep"),(Str.ofString "extendedpictographic",Str.ofString "ep"),(Str.ofString "extpict",Str.ofString "ep"),(Str.ofString "lb",Str.ofString "lb"),(Str.ofString "linebreak",Str.ofString "lb"),(Str.ofString "ea",Str.ofString "ea"),(Str.ofString "eastasianwidth",Str.ofString "ea"),(Str.ofString "sc",Str.ofString "sc"),(Str.ofString "script",Str.ofString "sc"),(Str.ofString "scx",Str.ofString "scx"),(Str.ofString "scriptextensions",Str.ofString "scx"),(Str.ofString "nt",Str.ofString "nt"),(Str.ofString "numerictype",Str.ofString "nt"),(Str.ofString "nv",Str.ofString "nv"),(Str.ofString "numericvalue",Str.ofString "nv"),(Str.ofString "jt",Str.ofString "jt"),(Str.ofString "joiningtype",Str.ofString "jt"),(Str.ofString "di",Str.ofString "di"),(Str.ofString "defaultignorablecodepoint",Str.ofString "di"),(Str.ofString "ids",Str.ofString "ids"),(Str.ofString "idstart",Str.ofString "ids"),(Str.ofString "idc",Str.ofString "idc"),(Str.ofString "idcontinue",Str.ofString "idc"),(Str.ofString "xids",Str.ofString "xids"),(Str.ofString "xidstart",Str.ofString "xids"),(Str.ofString "xidc",Str.ofString "xidc"),(Str.ofString "xidcontinue",Str.ofString "xidc"),(Str.ofString "patsyn",Str.ofString "pat_syn"),(Str.ofString "patternsyntax",Str.ofString "pat_syn"),(Str.ofString "patws",Str.ofString "pat_ws"),(Str.ofString "patternwhitespace",Str.ofString "pat_ws"),(Str.ofString "name",Str.ofString "name"),(Str.ofString "na",Str.ofString "name"),(Str.ofString "idst",Str.ofString "idst"),(Str.ofString "identifierstatus",Str.ofString "idst"),(Str.ofString "nfkccf",Str.ofString "nfkc_cf"),(Str.ofString "nfkccasefold",Str.ofString "nfkc_cf")]
noncomputable def yb:bz:=cD 0 (aq (bS (tn oD)) aI)
noncomputable def nV:bz:=cD 3 (aq (dz (cP (aa 2)) (cx 3) (aq (gA (bp 461 "properties" (aa 0)) (aO k4 [(aa 3)]) (aa 1)) aI)) aI)
noncomputable def nW:bz:=cD 4 (aq (dz (cP (aa 3)) (cx 4) (aq (gA (bp 461 "words" (aa 0)) (cQ [(aa 1),(aO k4 [(aa 4)])]) (aa 2)) aI)) aI)
noncomputable def jd:bz:=cD 2 (aq (bT 2 (aO sC [(bp 461 "properties" (aa 0)),(aa 1)])) (aq (b8 (bq .Is (aa 2) (aj .none)) (aq (bT 2 (aO sC [(aO yb []),(aa 1)])) aI) aI) (aq (b8 (bq .IsNot (aa 2) (aj .none)) (aq (bS (aa 2)) aI) aI) (aq (bS (fb (kr [(bq .In (aa 1) (bp 461 "defaults" (aa 0))),(bq .In (aa 1) (bp 461 "maps" (aa 0)))]) (aa 1) (aj .none))) aI))))
noncomputable def jD:bz:=cD 3 (aq (bT 3 (aO k4 [(aa 2)])) (aq (dz (cP (cQ [(aa 3),(fb (bq .Eq (eX (aa 3) none (some (aj (.int 2))) none) (aj (.str "is"))) (eX (aa 3) (some (aj (.int 2))) none none) (aa 3))])) (cx 4) (aq (b8 (td false (cQ [(aa 1),(aa 4)]) (bp 461 "words" (aa 0))) (aq (bS (tg (bp 461 "words" (aa 0)) (cQ [(aa 1),(aa 4)]))) aI) aI) aI)) (aq (bS (fb (bq .Eq (aa 1) (aj (.str "gc"))) (aO sC [oe,(aa 2)]) (aj .none))) aI)))
noncomputable def sI:bz:=cD 1 (aq (b8 (bq .Eq (aO iC [(aa 0)]) (aj (.int 0))) (aq (bS (aj .none)) aI) aI) (aq (bT 1 (aj (.int 0))) (aq (dz (cP (aa 0)) (cx 2) (aq (b8 (po (lj .LtE .LtE (aj (.int 48)) (aa 2) (aj (.int 57)))) (aq (bS (aj .none)) aI) aI) (aq (bT 1 (bI .Sub (bI .Add (bI .Mult (aj (.int 10)) (aa 1)) (aa 2)) (aj (.int 48)))) aI))) (aq (bS (aa 1)) aI))))
noncomputable def u8:bz:=cD 1 (aq (bT 1 (b5 (uF zf) (aa 0) [(aj (.str " "))])) (aq (bT 2 (eP .Eq (eX (aa 1) none (some (aj (.int 1))) none) (aj (.str "-")))) (aq (bT 3 (ef [] (cP (b5 (uF ze) (eX (aa 1) (some (fb (fx (aa 2)) (aj (.int 1)) (aj (.int 0)))) none none) [(aj (.str "/"))])) (cx 1) eY (aO sI [(ef [] (cP (aa 1)) (cx 1) eY (aO oo [(aa 1)]))]))) (aq (b8 (kr [(bq .Gt (aO iC [(aa 3)]) (aj (.int 2))),(bq .In (aj .none) (aa 3)),(ei [(bq .Eq (aO iC [(aa 3)]) (aj (.int 2))),(bq .Eq (bG (aa 3) (aj (.int 1))) (aj (.int 0)))])]) (aq (bS (aj .none)) aI) aI) (aq (bS (cQ [(fb (fx (aa 2)) (bI .Sub (aj (.int 0)) (bG (aa 3) (aj (.int 0)))) (bG (aa 3) (aj (.int 0)))),(fb (bq .Eq (aO iC [(aa 3)]) (aj (.int 2))) (bG (aa 3) (aj (.int 1))) (aj (.int 1)))])) aI)))))
noncomputable def ya:bz:=cD 2 (aq (pv [2,3] (fb (fx (aO hH [(aa 0),(aj (.st (.type "int")))])) (cQ [(aa 0),(aj (.int 1))]) (aa 0))) (aq (bT 4 (aO u8 [(aa 1)])) (aq (bS (gz false [(eP .IsNot (aa 4) (aj .none)),(eP .Eq (bI .Mult (bG (aa 4) (aj (.int 0))) (aa 3)) (bI .Mult (aa 2) (bG (aa 4) (aj (.int 1)))))])) aI)))
noncomputable def yd:bz:=cD 2 (aq (b8 (fx (aO hH [(aa 0),(aj (.st (.type "bool")))])) (aq (bS (fb (fx (aa 0)) (aj (.str "Y")) (aj (.str "N")))) aI) aI) (aq (b8 (bq .Is (aa 0) (aj .none)) (aq (bS (aj (.str "None"))) aI) aI) (aq (b8 (fx (aO hH [(aa 0),(aj (.st (.type "str")))])) (aq (bS (aa 0)) aI) aI) (aq (b8 (fx (aO hH [(aa 0),(aj (.st (.type "int")))])) (aq (bS oe) aI) aI) (aq (b8 vM (aq (b8 (bq .NotEq (aa 1) (aj (.str "nv"))) (aq (bS (aj .none)) aI) aI) (aq (bS (fb (bq .Eq (bG (aa 0) (aj (.int 1))) (aj (.int 1))) oe oe)) aI)) aI) (aq (b8 (ei [(fx (aO hH [(aa 0),(aj (.st (.type "tuple")))])),(bq .Gt (aO iC [(aa 0)]) (aj (.int 0))),(fx (aO hH [(bG (aa 0) (aj (.int 0))),(aj (.st (.type "str")))]))]) (aq (bS (fb vM (b5 (uF zc) (aj (.str " ")) [(aa 0)]) (aj .none))) aI) aI) (aq (bS (aj .none)) aI)))))))
noncomputable def CA:bz:=cD 1 (aq (bT 1 (aO k4 [(aa 0)])) (aq (b8 (bq .In (aa 1) (cQ [(aj (.str "y")),(aj (.str "yes")),(aj (.str "t")),(aj (.str "true"))])) (aq (bS (aj (.bool true))) aI) aI) (aq (bS (fb (bq .In (aa 1) (cQ [(aj (.str "n")),(aj (.str "no")),(aj (.str "f")),(aj (.str "false"))])) (aj (.bool false)) (aj .none))) aI)))
noncomputable def qK:bz:=cD 4 (aq (b8 (fx (aO hH [(aa 2),(aj (.st (.type "bool")))])) (aq (bS (eP .Eq (aO CA [(aa 3)]) (aa 2))) aI) aI) (aq (b8 (ei [(bq .Eq (aa 1) (aj (.str "scx"))),(bq .Is (aa 2) (aj .none))]) (aq (bS (aj (.bool false))) aI) aI) (aq (bT 4 (aO jD [(aa 0),(aa 1),(aa 3)])) (aq (b8 (ei [(bq .Eq (aa 1) (aj (.str "gc"))),(bq .IsNot (aa 4) (aj .none))]) (aq (bS oe) aI) aI) (aq (b8 (kr [(fx (aO hH [(aa 2),(aj (.st (.type "int")))])),(ei [(bq .Eq (aa 1) (aj (.str "nv"))),vM])]) (aq (bS (aO ya [(aa 2),(fb (kr [(bq .Is (aa 4) (aj .none)),(bq .IsNot (aO u8 [(aa 3)]) (aj .none))]) (aa 3) (aa 4))])) aI) aI) (aq (bT 5 (aO k4 [(fb (bq .Is (aa 4) (aj .none)) (aa 3) (aa 4))])) (aq (b8 (ei [(bq .Eq (aa 1) (aj (.str "scx"))),(fx (aO hH [(aa 2),(aj (.st (.type "tuple")))]))]) (aq (bS (eP .In (aa 5) (ef [] (cP (aa 2)) (cx 1) eY (aO k4 [(aa 1)])))) aI) aI) (aq (b8 (bq .Eq (aa 1) (aj (.str "dm"))) (aq (bT 6 (fb (bq .Is (aa 2) (aj .none)) (aj (.str "none")) (bG (aa 2) (aj (.int 0))))) (aq (bS (eP .Eq (aa 5) (fb (bq .Eq (aa 6) (aj (.str ""))) (aj (.str "canonical")) (aO k4 [(aa 6)])))) aI)) aI) (aq (bT 6 (aO yd [(aa 2),(aa 1)])) (aq (bS (gz false [(eP .IsNot (aa 6) (aj .none)),(eP .Eq (aO k4 [(aa 6)]) (aa 5))])) aI))))))))))
noncomputable def o3:bz:=cD 4 (aq (bT 4 (b5 (cI 461 "get" hZ) (aa 0) [(aa 1),(aa 2)])) (aq (b8 (ei [(bq .Eq (aa 1) (aj (.str "scx"))),(bq .Is (aa 4) (aj .none))]) (aq (bS (aO qK [(aa 0),(aj (.str "sc")),(b5 (cI 461 "get" hZ) (aa 0) [(aj (.str "sc")),(aa 2)]),(aa 3)])) aI) aI) (aq (bS (aO qK [(aa 0),(aa 1),(aa 4),(aa 3)])) aI)))
noncomputable def yc:bz:=cD 2 (aq (bS (fb (bq .In (aa 1) (bp 461 "maps" (aa 0))) (b5 (cI 139 "ranges" nU) (bG (bp 461 "maps" (aa 0)) (aa 1)) []) (dList []))) aI)
noncomputable def oY:bz:=cD 3 (aq (b8 (bq .Eq (aa 0) (aj (.str "gc"))) (aq (bS (gz true [oe,(eP .NotEq (aO iC [(aa 2)]) (aj (.int 2))),(eP .Eq (aa 2) (aj (.str "LC")))])) aI) aI) (aq (b8 (bq .Eq (aa 0) (aj (.str "ccc"))) (aq (bS (gz true [(tf (aO hH [(aa 2),(aj (.st (.type "int")))])),(tf (DQ .LtE .LtE (aj (.int 0)) (aa 2) (aj (.int 254))))])) aI) aI) (aq (b8 (fx (aO hH [(aa 1),(aj (.st (.type "bool")))])) (aq (bS (tf (aO hH [(aa 2),(aj (.st (.type "bool")))]))) aI) aI) (aq (b8 (fx (aO hH [(aa 1),(aj (.st (.type "str")))])) (aq (bS (gz true [(tf (aO hH [(aa 2),(aj (.st (.type "str")))])),(eP .Eq (aa 2) (aj (.str "")))])) aI) aI) (aq (bS (gz false [(eP .IsNot (aa 2) (aj .none)),oe])) aI)))))
noncomputable def qJ:bz:=cD 1 (aq (bT 1 (dList [])) (aq (dz (cP (aO l5 [(bp 461 "maps" (aa 0))])) (cx 2) (aq (bT 3 (b5 (qm pD) (bp 461 "defaults" (aa 0)) [(aa 2)])) (aq (dz (cP (aO yc [(aa 0),(aa 2)])) (gM [4,5,6]) (aq (b8 (fx (aO oY [(aa 2),(aa 3),(aa 6)])) (aq (c8 (b5 (g4 hG) (aa 1) [(cQ [(aa 2),(aa 4)])])) aI) aI) aI)) aI))) (aq (bS (aa 1)) aI)))
noncomputable def o2:bz:=cD 0 (aq (bS (m4 ["sc","ccc"] [(cQ [(aj (.str "Latn")),(aj (.str "Grek")),(aj (.str "Zzzz")),(aj (.int 7))]),(cQ [(aj (.int 230)),(aj (.int 9)),(aj (.int 0)),(aj (.str "x"))])])) aI)
noncomputable def sF(ad:Addr)(ns:List Int):bz:=cD 1 (aq (kt [2,3] (cQ [(ef [] (cP (y1 0 ad ns)) (cx 1) eY (bI .Mod (aO zb [(aa 1)]) (aj (.int 1000003)))),(aj (.int 11))])) (aq (dz (cP (aa 2)) (cx 1) (aq (bT 3 (bI .Mod (bI .Add (bI .Mult (aa 3) (aj (.int 31))) (aa 1)) (aj (.int 1000003)))) aI)) (aq (bS (m4 ["cells","mixed"] [(eX (aa 2) none none (some (jn (aj (.int 1))))),(aa 3)])) aI)))
noncomputable def je:bz:=cD 2 (aq (b8 (bq .NotEq (bG (aa 0) (aj (.str "cells"))) (dList [])) (aq (bS (bI .Mod (b5 (g4 zd) (bG (aa 0) (aj (.str "cells"))) []) (aa 1))) aI) aI) (aq (gA (aa 0) (aj (.str "mixed")) (bI .Mod (bI .Add (bI .Mult (bG (aa 0) (aj (.str "mixed"))) (aj (.int 16807))) (aj (.int 29))) (aj (.int 2147483647)))) (aq (bS (bI .Mod (bI .FloorDiv (bG (aa 0) (aj (.str "mixed"))) (aj (.int 64))) (aa 1))) aI)))
noncomputable def o1:bz:=cD 2 (aq (bT 2 (dList [])) (aq (dz (q' (aa 1)) (cx 3) (aq (bT 4 (bG (cQ [(aj (.str "sc")),(aj (.str "ccc"))]) (aO je [(aa 0),(aj (.int 2))]))) (aq (pv [5,6] (ef [(4,0)] (q' (aj (.int 2))) (cx 1) eY (bG (aj (.tup [.int 0, .int 1, .int 5, .int 127, .int 128, .int 55295, .int 55296, .int 65535, .int 65536, .int 1114111])) (aO je [(aa 4),(aj (.int 10))])))) (aq (c8 (b5 (g4 hG) (aa 2) [(cQ [(aa 4),(aa 5),(aa 6),(bG (bG (aO o2 []) (aa 4)) (aO je [(aa 0),(aj (.int 4))]))])])) aI)))) (aq (bS (aa 2)) aI)))
noncomputable def o0:bz:=cD 1 (aq (bT 1 (aO (newD 461 sv) [])) (aq (dz (cP (aa 0)) (gM [2,3,4,5]) (aq (c8 (b5 (cI 461 "put" nT) (aa 1) [(aa 2),(aa 3),(aa 4),(aa 5)])) aI)) (aq (bS (aa 1)) aI)))
noncomputable def j_:bz:=cD 3 (aq (bT 3 (bG (bG (aO o2 []) (aa 1)) (aj (.int 2)))) (aq (dz (cP (aa 0)) (gM [4,5,6,7]) (aq (b8 (ei [(bq .Eq (aa 4) (aa 1)),(lj .LtE .LtE (aa 5) (aa 2) (aa 6))]) (aq (bT 3 (aa 7)) aI) aI) aI)) (aq (bS (aa 3)) aI)))
noncomputable def qL:bz:=cD 4 (aq (bT 4 (aO j_ [(aa 1),(aa 2),(aa 3)])) (aq (bS (fb (bq .NotEq (aO eZ [(aa 4)]) (aO eZ [(bG (bG (aO o2 []) (aa 2)) (aj (.int 2)))])) (aa 4) (aO j_ [(aa 0),(aa 2),(aa 3)]))) aI))
noncomputable def oZ:bz:=cD 1 (aq (bT 1 (tm [0] [(aj (.bool true))])) (aq (dz (cP (aa 0)) (gM [2,3,4,5]) (aq (b8 (bq .LtE (aa 3) (aa 4)) (aq (gA (aa 1) (aa 3) (aj (.bool true))) (aq (gA (aa 1) (bI .Add (aa 4) (aj (.int 1))) (aj (.bool true))) aI)) aI) aI)) (aq (bS (ef [] (cP (aO l5 [(aa 1)])) (cx 1) (bq .LtE (aa 1) (aj (.int 1114111))) (aa 1))) aI)))
noncomputable def sG:bz:=cD 3 (aq (kt [3,4] (cQ [(aO oZ [(ef [(2,2)] (cP (bI .Add (aa 0) (aa 1))) (cx 1) (bq .Eq (bG (aa 1) (aj (.int 0))) (aa 2)) (aa 1))]),(dList [])])) (aq (dz (te (aa 3)) (gM [5,6]) (aq (bT 7 (aO qL [(aa 0),(aa 1),(aa 2),(aa 6)])) (aq (bT 8 (fb (bq .Lt (bI .Add (aa 5) (aj (.int 1))) (aO iC [(aa 3)])) (bI .Sub (bG (aa 3) (bI .Add (aa 5) (aj (.int 1)))) (aj (.int 1))) (aj (.int 1114111)))) (aq (b8 (ei [(bq .NotEq (aa 4) (dList [])),(bq .Eq (aO eZ [(bG (bG (aa 4) (jn (aj (.int 1)))) (aj (.int 2)))]) (aO eZ [(aa 7)]))]) (aq (gA (aa 4) (jn (aj (.int 1))) (cQ [(bG (bG (aa 4) (jn (aj (.int 1)))) (aj (.int 0))),(aa 8),(aa 7)])) aI) (aq (c8 (b5 (g4 hG) (aa 4) [(cQ [(aa 6),(aa 8),(aa 7)])])) aI)) aI)))) (aq (bS (ef [(4,2)] (cP (aa 4)) (cx 1) (bq .NotEq (aO eZ [(bG (aa 1) (aj (.int 2)))]) (aO eZ [(bG (bG (aO o2 []) (aa 4)) (aj (.int 2)))])) (aa 1))) aI)))
noncomputable def sH:bz:=cD 4 (aq (bT 4 (dList [(aj (.str "Foo Bar")),(aj (.str "foobar")),(aj (.str "FOO_BAR")),(aj (.str "is foo-bar")),(aj (.str "isFooBar"))])) (aq (bT 5 (dList [(aj (.str "Old Latin")),(aj (.str "oldlatin")),(aj (.str "OLD_LATIN")),(aj (.str "is old-latin")),(aj (.str "isOldLatin"))])) (aq (b8 (bq .NotEq (dList [(aO jd [(aa 0),(bG (aa 4) (aa 3))]),(aO jD [(aa 0),(aj (.str "sc")),(bG (aa 5) (aa 3))])]) (dList [(aj .none),(aj .none)])) (aq (bS (aj (.bool false))) aI) aI) (aq (c8 (aO nV [(aa 0),(aj (.str "sc")),(dList [(aj (.str "Foo Bar"))])])) (aq (c8 (aO nV [(aa 0),(aj (.str "ccc")),(dList [(aj (.str "Big-Sort"))])])) (aq (c8 (aO nW [(aa 0),(aj (.str "sc")),(aj (.str "Latn")),(dList [(aj (.str "Latn")),(aj (.str "Old Latin"))])])) (aq (c8 (aO nW [(aa 0),(aj (.str "sc")),(aj (.str "Grek")),(dList [(aj (.str "Grek")),(aj (.str "Great-Greek"))])])) (aq (bT 6 (dList [(aO jd [(aa 0),(bG (aa 4) (aa 3))]),(aO jd [(aa 0),(aj (.str "BIG sort"))]),(aO jd [(aa 0),(aj (.str "foobaz"))]),(aO jd [(aa 1),(bG (aa 4) (aa 3))])])) (aq (b8 (bq .NotEq (aa 6) (dList [(aj (.str "sc")),(aj (.str "ccc")),(aj .none),(aj .none)])) (aq (bS (aj (.bool false))) aI) aI) (aq (bT 6 (dList [(aO jD [(aa 0),(aj (.str "sc")),(bG (aa 5) (aa 3))]),(aO jD [(aa 0),(aj (.str "sc")),(aj (.str "great greek"))]),(aO jD [(aa 0),(aj (.str "sc")),(aj (.str "greatlatin"))]),(aO jD [(aa 1),(aj (.str "sc")),(bG (aa 5) (aa 3))])])) (aq (b8 (bq .NotEq (aa 6) (dList [(aj (.str "Latn")),(aj (.str "Grek")),(aj .none),(aj .none)])) (aq (bS (aj (.bool false))) aI) aI) (aq (dz (cP (eX (aO oZ [(aa 2)]) none (some (aj (.int 4))) none)) (cx 7) (aq (kt [8,9] (cQ [(aO j_ [(aa 2),(aj (.str "sc")),(aa 7)]),(aO j_ [(aa 2),(aj (.str "ccc")),(aa 7)])])) (aq (b8 (ei [(bq .NotEq (aa 8) (aj (.int 7))),(bq .IsNot (aO o3 [(aa 0),(aj (.str "sc")),(aa 7),(bG (aa 5) (aa 3))]) (eP .Eq (aa 8) (aj (.str "Latn"))))]) (aq (bS (aj (.bool false))) aI) aI) (aq (b8 (ei [(bq .NotEq (aa 9) (aj (.str "x"))),(bq .IsNot (aO o3 [(aa 0),(aj (.str "ccc")),(aa 7),(aj (.str " 230 "))]) (eP .Eq (aa 9) (aj (.int 230))))]) (aq (bS (aj (.bool false))) aI) aI) aI)))) (aq (bS (aj (.bool true))) aI)))))))))))))
noncomputable def u_:bz:=cD 2 (aq (bT 2 (bI .Add (ef [] (cP (bG (aa 1) (aj (.str "ccc")))) (cx 1) (bq .Eq (bG (aa 1) (aj (.int 2))) (aj (.str "x"))) (cQ [(aj (.str "ccc")),(bG (aa 1) (aj (.int 0)))])) (ef [] (cP (bG (aa 1) (aj (.str "sc")))) (cx 1) (bq .Eq (bG (aa 1) (aj (.int 2))) (aj (.int 7))) (cQ [(aj (.str "sc")),(bG (aa 1) (aj (.int 0)))])))) (aq (b8 (bq .NotEq (ef [] (cP (aO qJ [(aa 0)])) (cx 1) eY (aO hI [(aa 1)])) (aa 2)) (aq (bS (aj (.bool false))) aI) aI) (aq (vQ (aa 0) (bT 1 (aO qJ [(aa 0)])) (bq .Gt (aO iC [(aa 1)]) (aj (.int 0))) [(bG (aa 1) (aj (.int 0)))] (eP .NotEq (aa 2) (dList [])) (bG (aa 2) (aj (.int 0)))) (aq (bS (eP .Eq (aa 2) (dList []))) aI))))
noncomputable def CB(ad:Addr)(ns:List Int):b9:=(aq (bT 1 (aO (sF ad ns) [(aa 0)])) (aq (bT 2 (aO o1 [(aa 1),(bI .Add (aj (.int 1)) (aO je [(aa 1),(aj (.int 3))]))])) (aq (bT 3 (aO o1 [(aa 1),(aO je [(aa 1),(aj (.int 3))])])) (aq (kt [4,5] (cQ [(aO o0 [(aa 2)]),(aO o0 [(aa 3)])])) (aq (bT 6 (aO sE [(aa 4),(aa 5)])) (aq (pv [7,8] (bG (aj (.tup [(.tup [.int 6, .int 5]),(.tup [.int 7, .int 6]),(.tup [.int 8, .int 8]),(.tup [.int 4, .int 9])])) (aO je [(aa 1),(aj (.int 4))]))) (aq (bT 9 (aO sD [(aa 6),(aa 7),(aa 8)])) (aq (bT 10 (kq (.aS []))) (aq (dz (cP (cQ [(aj (.str "sc")),(aj (.str "ccc"))])) (cx 11) (aq (gA (aa 10) (aa 11) (aO sG [(aa 2),(aa 3),(aa 11)])) (aq (dz (cP (aO oZ [(ef [(2,11)] (cP (bI .Add (aa 2) (aa 3))) (cx 1) (bq .Eq (bG (aa 1) (aj (.int 0))) (aa 2)) (aa 1))])) (cx 12) (aq (bT 13 (aO qL [(aa 2),(aa 3),(aa 11),(aa 12)])) (aq (bT 14 (dList [(b5 (cI 461 "get" hZ) (aa 6) [(aa 11),(aa 12)]),(b5 (cI 496 "get" jC) (aa 9) [(aa 11),(aa 12)]),(b5 (cI 461 "get" hZ) (aa 4) [(aa 11),(aa 12)]),(b5 (cI 461 "get" hZ) (aa 5) [(aa 11),(aa 12)])])) (aq (b8 (bq .NotEq (aO eZ [(aa 14)]) (aO eZ [(dList [(aa 13),(aa 13),(aO j_ [(aa 2),(aa 11),(aa 12)]),(aO j_ [(aa 3),(aa 11),(aa 12)])])])) (aq (bS (aj (.bool false))) aI) aI) aI)))) (aq (b8 (bq .NotEq (bG (aa 10) (aa 11)) (dList [])) (aq (bT 14 (ef [(2,11)] (cP (cQ [(aa 6),(aa 9)])) (cx 1) eY (ef [] (cP (b5 (cI 139 "ranges" nU) (b5 (qn (cI 461 "map_of" oW) (cI 496 "map_of" sx)) (aa 1) [(aa 2)]) [])) (cx 1) eY (aO hI [(aa 1)])))) (aq (b8 (bq .NotEq (aO eZ [(aa 14)]) (aO eZ [(dList [(bG (aa 10) (aa 11)),(bG (aa 10) (aa 11))])])) (aq (bS (aj (.bool false))) aI) aI) aI)) aI) aI)))) (aq (b8 (bq .NotEq (aO eZ [(dList [(b5 (cI 461 "get" hZ) (aa 6) [(aj (.str "gc")),(aj (.int 5))]),(b5 (cI 496 "get" jC) (aa 9) [(aj (.str "gc")),(aj (.int 5))]),(b5 (cI 496 "get" jC) (aa 9) [(aj (.str "yy")),(aj (.int 5))])])]) (aO eZ [(dList [(aj (.str "Cn")),(aj (.str "Cn")),(aj .none)])])) (aq (bS (aj (.bool false))) aI) aI) (aq (bS (gz false [aO u_ [(aa 6),(aa 10)],(aO sH [(aa 4),(aa 5),(aa 2),(aO je [(aa 1),(aj (.int 5))])])])) aI)))))))))))
noncomputable def u9(ad:Addr)(ns:List Int):bz:=cD 1 (CB ad ns)
noncomputable abbrev lc:NameKind:= .local
noncomputable abbrev bc:NameKind:= .globalImplicit
theorem FnAt.of{c:a9}{f:Addr}{nm:a5}{np:Nat}{body:List Stmt}{r6 nu ut name qual params scope px p5 doc pm an od q9}
 (aT:c.K.lookup f=some ⟨r6,nu, .func (fnX name qual params body scope [] px p5 doc pm an od q9),ut⟩) (rx:codeIn c.K od qual=true) (aD:scope.names=nm) (aB:scope.kind= .function) (wq:scope.isCoroutine=false) (b6:scope.isGenerator=false)
 (az:∀(s:Shared) (vals:List Value),(∀b o,c.base.get? b=some o→s.heap.get? b=some o)→vals.length=np→BindsTo s (fnX name qual params body scope [] px p5 doc pm an od q9) ⟨vals,[]⟩ (((nm.take np).map (·.1)).zip vals))
 (bk:(nm.map (·.1)).Nodup) (le:np≤nm.length) (kinds:(nm.take np).all (fun p=>p.2== .local||p.2== .cell)=true):FnAt c f nm np body:=
 ⟨⟨_,_,_,_,_,_,_,_,_,_,_,_,_,_,aT,rx,aD,aB,wq,b6,az⟩,bk,le,fun p aH=>by
  have:=List.all_eq_true.mp kinds p aH
  simpa using this⟩
noncomputable def ud(K:Frag)(x:Str):Option Value:=match K.lookup 3 with
 |some ⟨_,_, .dict av _,_⟩=>nsFind av x
 |_=>none
noncomputable def ay(prog:Program)(w:World)(base:Heap)(ar:Str→Option Value):a9:=⟨prog,w,hd.heap_1 w.params,base,fun x=>ud (hd.heap_1 w.params) x,ar⟩
theorem XY{prog:Program}{w:World}{base:Heap}{ar:Str→Option Value}(x:Str):(ay prog w base ar).ce x=ud (hd.heap_1 w.params) x:=rfl
theorem mD:typeOf (.builtin "list.append")=pure (.type "method_descriptor"):=by show builtinType _=_;rw[builtinType_eq_fast];kernel_rfl
theorem WY:typeOf (.builtin "list.pop")=pure (.type "method_descriptor"):=PySem.F.type_list_pop
theorem WX:typeOf (.builtin "list.extend")=pure (.type "method_descriptor"):=PySem.F.type_list_extend
theorem KM:typeOf (.builtin "str.join")=pure (.type "method_descriptor"):=PySem.F.type_str_join
theorem W0:typeOf (.builtin "str.strip")=pure (.type "method_descriptor"):=PySem.F.type_str_strip
theorem WZ:typeOf (.builtin "str.split")=pure (.type "method_descriptor"):=PySem.F.type_str_split
section
variable{prog:Program}{w:World}{base:Heap}{ar:Str→Option Value}
theorem WN(ok:(ay prog w base ar).Ok):∀J,aC (ay prog w base ar).base J (.tup [.int 0, .int 1, .int 5, .int 127, .int 128, .int 55295, .int 55296, .int 65535, .int 65536, .int 1114111]) (.ref 661):=by
 intro J
 rw[aC]
 exact⟨_,_,_,rfl,ok.K 661 _ (by show(hd.heap_1 w.params).lookup 661=_;rfl), .ai .mkInt (.ai .mkInt (.ai .mkInt (.ai .mkInt (.ai .mkInt (.ai .mkInt (.ai .mkInt (.ai .mkInt (.ai .mkInt (.one .mkInt)))))))))⟩
theorem xT(ok:(ay prog w base ar).Ok){J:List Addr}{a:Nat}{x y:Int}{t u:Tok}{n:Nat}(h:(hd.heap_1 w.params).lookup a=some ⟨.type "tuple",none, .seq #[.int x t, .int y u] n,#[]⟩):aC (ay prog w base ar).base J (.tup [.int x, .int y]) (.ref a):=by
 rw[aC]
 exact⟨_,[.int x t, .int y u],_,rfl,ok.K a _ h, .ai .mkInt (.one .mkInt)⟩
theorem WM(ok:(ay prog w base ar).Ok):∀J,aC (ay prog w base ar).base J (.tup [(.tup [.int 6, .int 5]),(.tup [.int 7, .int 6]),(.tup [.int 8, .int 8]),(.tup [.int 4, .int 9])]) (.ref 673):=by
 intro J
 rw[aC]
 exact⟨_,[.ref 669, .ref 670, .ref 671, .ref 672],_,rfl,ok.K 673 _ (by show(hd.heap_1 w.params).lookup 673=_;rfl), .ai (xT ok (by rfl)) (.ai (xT ok (by rfl)) (.ai (xT ok (by rfl)) (.one (xT ok (by rfl)))))⟩
end
section
variable{prog:Program}{w:World}{base:Heap}{ar:Str→Option Value}
theorem On:∃nm q N bs bm hdct sn sub ab col dd k0 k1 k2 k3 k5,(ay prog w base ar).K.lookup 52=some (excClassObj nm q 52 N bs bm hdct sn sub ab col dd k0 k1 k2 k3 k5 "Exception.__new__")∧
 bm.contains (.type "Exception")=true∧bm.contains (.type "AttributeError")=false∧bm.contains (.type "NameError")=false∧bm.contains (.type "BaseException")=true:=
 ⟨_,_,_,_,_,_,_,_,_,_,_,_,_,_,_,_,by show(hd.heap_1 w.params).lookup 52=_;rfl,by kernel_rfl,by kernel_rfl,by kernel_rfl,by kernel_rfl⟩
theorem Op:∃cd B,clsIn (ay prog w base ar).K 52=some cd∧cd.mro=[.ref 52, .ref B, .type "Exception", .type "BaseException", .type "object"]∧cd.hasDict=true:=
 ⟨_,39,by show clsIn (hd.heap_1 w.params) _=_;rfl,rfl,rfl⟩
theorem Ov:mJ (ay prog w base ar).K 52 "told" 36 where
 at':=On
 call:=by show specialIn (hd.heap_1 w.params) _ _=_;kernel_rfl
 typ:=by show instIn (hd.heap_1 w.params) _ _=_;kernel_rfl
 self:=by show mroIn (hd.heap_1 w.params) _ _=_;kernel_rfl
 top:=by show mroIn (hd.heap_1 w.params) _ _=_;kernel_rfl
 cls:=Op
 set:=by show findIn (hd.heap_1 w.params) _ _=_;kernel_rfl
 get:=by show findIn (hd.heap_1 w.params) _ _=_;kernel_rfl
 hook:=by show findIn (hd.heap_1 w.params) _ _=_;kernel_rfl
 init:=by show findIn (hd.heap_1 w.params) _ _=_;kernel_rfl
 fn:=by show typeIn (hd.heap_1 w.params) _=_;kernel_rfl
 free:=by show findIn (hd.heap_1 w.params) _ _=_;kernel_rfl
theorem Ou:instIn (ay prog w base ar).K (.ref 52) (.type "tuple")=some false:=by show instIn (hd.heap_1 w.params) _ _=_;kernel_rfl
theorem Oo:mroIn (ay prog w base ar).K 52 (.type "BaseException")=some true:=by show mroIn (hd.heap_1 w.params) _ _=_;kernel_rfl
theorem Ot:eW (ay prog w base ar) 52 "told":=by show findIn (hd.heap_1 w.params) _ _=_;kernel_rfl
theorem Oq(ok:(ay prog w base ar).Ok):∃dT dC ig mj,FnAt (ay prog w base ar) 36 [("self", .local),("told", .local)] 2 [.Assign [.Attribute (.Name "self" dT) "told" dC] (.Name "told" ig) mj]:=
 ⟨_,_,_,_,FnAt.of (by show(hd.heap_1 w.params).lookup 36=_;rfl) (by show codeIn (hd.heap_1 w.params) _ _=_;kernel_rfl) rfl rfl rfl rfl (by intro _ _ az;refine gj ?_;intro _ _;exact BindsTo.of_defaults rfl (az _ _ (ok.K _ _ (by show(hd.heap_1 w.params).lookup _=_;rfl))) rfl rfl rfl) (by decide) (by decide) (by decide)⟩
end
section
variable{prog:Program}{w:World}{base:Heap}{ar:Str→Option Value}
theorem kM:(ay prog w base ar).ce "len"=none:=by kernel_rfl
theorem rU:(ay prog w base ar).ce "bool"=none:=by kernel_rfl
theorem iF:(ay prog w base ar).ce "isinstance"=none:=by kernel_rfl
theorem f':ClsAt (ay prog w base ar) 139:=⟨fun x=>by kernel_rfl,by kernel_rfl,by kernel_rfl,by kernel_rfl⟩
theorem Wz:takerIn (ay prog w base ar).K 139 "default"=some none:=by kernel_rfl
theorem Kt:takerIn (ay prog w base ar).K 139 "starts"=some none:=by kernel_rfl
theorem Ku:takerIn (ay prog w base ar).K 139 "values"=some none:=by kernel_rfl
theorem ri:eW (ay prog w base ar) 139 "values":=by kernel_rfl
theorem rh:eW (ay prog w base ar) 139 "starts":=by kernel_rfl
theorem zE:(ay prog w base ar).ce "place_by_half"=some (.ref 89):=by kernel_rfl
theorem AD:keepIn (ay prog w base ar).K (.ref 89)=true:=by kernel_rfl
theorem EU:(ay prog w base ar).ce "MAX_CODE"=some (.int 1114111 196):=by kernel_rfl
theorem wg:(ay prog w base ar).ce "range_are_like"=some (.ref 96):=by kernel_rfl
theorem wX:keepIn (ay prog w base ar).K (.ref 96)=true:=by kernel_rfl
theorem A0:(ay prog w base ar).ce "enumerate"=none:=by kernel_rfl
theorem E7:(ay prog w base ar).ce "range_rows"=some (.ref 150):=by kernel_rfl
theorem Gz:keepIn (ay prog w base ar).K (.ref 150)=true:=by kernel_rfl
theorem OL:eW (ay prog w base ar) 139 "default":=by kernel_rfl
theorem PC:(ay prog w base ar).ce "trie_value_number"=some (.ref 164):=by kernel_rfl
theorem R':keepIn (ay prog w base ar).K (.ref 164)=true:=by kernel_rfl
theorem wh:(ay prog w base ar).ce "trie_add"=some (.ref 157):=by kernel_rfl
theorem wV:keepIn (ay prog w base ar).K (.ref 157)=true:=by kernel_rfl
theorem q6:ClsAt (ay prog w base ar) 188:=⟨fun x=>by kernel_rfl,by kernel_rfl,by kernel_rfl,by kernel_rfl⟩
theorem WB:takerIn (ay prog w base ar).K 188 "runs"=some none:=by kernel_rfl
theorem WA:takerIn (ay prog w base ar).K 188 "numbers"=some none:=by kernel_rfl
theorem v5:eW (ay prog w base ar) 188 "numbers":=by kernel_rfl
theorem dL:ClsAt (ay prog w base ar) 237:=⟨fun x=>by kernel_rfl,by kernel_rfl,by kernel_rfl,by kernel_rfl⟩
theorem WF:takerIn (ay prog w base ar).K 237 "size"=some none:=by kernel_rfl
theorem WE:takerIn (ay prog w base ar).K 237 "rows"=some none:=by kernel_rfl
theorem WD:takerIn (ay prog w base ar).K 237 "known"=some none:=by kernel_rfl
theorem WC:takerIn (ay prog w base ar).K 237 "found"=some none:=by kernel_rfl
theorem Kv:takerIn (ay prog w base ar).K 237 "begun"=some none:=by kernel_rfl
theorem B7:takerIn (ay prog w base ar).K 237 "filled"=some none:=by kernel_rfl
theorem rV:(ay prog w base ar).ce "tuple"=none:=by kernel_rfl
theorem zj:eW (ay prog w base ar) 237 "known":=by kernel_rfl
theorem v7:eW (ay prog w base ar) 237 "rows":=by kernel_rfl
theorem He:makesIn (ay prog w base ar).K 188=true:=by kernel_rfl
theorem Gf:findIn (ay prog w base ar).K (.ref 188) "__init__"=some (some (.ref 185)):=by kernel_rfl
theorem KK:typeIn (ay prog w base ar).K (.ref 185)=some (.type "function"):=by kernel_rfl
theorem EW:(ay prog w base ar).ce "TrieRow"=some (.ref 188):=by kernel_rfl
theorem GA:keepIn (ay prog w base ar).K (.ref 188)=true:=by kernel_rfl
theorem zi:eW (ay prog w base ar) 237 "found":=by kernel_rfl
theorem zh:eW (ay prog w base ar) 237 "begun":=by kernel_rfl
theorem G9:MethAt (ay prog w base ar) 237 "row_number" 213:=⟨by kernel_rfl,by kernel_rfl,by kernel_rfl⟩
theorem rj:eW (ay prog w base ar) 237 "filled":=by kernel_rfl
theorem pF:eW (ay prog w base ar) 237 "size":=by kernel_rfl
theorem Tu:(ay prog w base ar).ce "min"=none:=by kernel_rfl
theorem S8:MethAt (ay prog w base ar) 237 "close" 220:=⟨by kernel_rfl,by kernel_rfl,by kernel_rfl⟩
theorem AR:MethAt (ay prog w base ar) 237 "put" 227:=⟨by kernel_rfl,by kernel_rfl,by kernel_rfl⟩
theorem Pk:(ay prog w base ar).ce "TRIE_MOST_BITS"=some (.int 16 382):=by kernel_rfl
theorem iy:ClsAt (ay prog w base ar) 307:=⟨fun x=>by kernel_rfl,by kernel_rfl,by kernel_rfl,by kernel_rfl⟩
theorem Wk:takerIn (ay prog w base ar).K 307 "low_bits"=some none:=by kernel_rfl
theorem Wm:takerIn (ay prog w base ar).K 307 "mid_bits"=some none:=by kernel_rfl
theorem Wp:takerIn (ay prog w base ar).K 307 "values"=some none:=by kernel_rfl
theorem Wl:takerIn (ay prog w base ar).K 307 "lows"=some none:=by kernel_rfl
theorem Wn:takerIn (ay prog w base ar).K 307 "mids"=some none:=by kernel_rfl
theorem Wo:takerIn (ay prog w base ar).K 307 "top"=some none:=by kernel_rfl
theorem PB:(ay prog w base ar).ce "trie_check_bits"=some (.ref 248):=by kernel_rfl
theorem Sb:keepIn (ay prog w base ar).K (.ref 248)=true:=by kernel_rfl
theorem PD:(ay prog w base ar).ce "trie_value_runs"=some (.ref 171):=by kernel_rfl
theorem Sa:keepIn (ay prog w base ar).K (.ref 171)=true:=by kernel_rfl
theorem Hf:makesIn (ay prog w base ar).K 237=true:=by kernel_rfl
theorem Gg:findIn (ay prog w base ar).K (.ref 237) "__init__"=some (some (.ref 206)):=by kernel_rfl
theorem KL:typeIn (ay prog w base ar).K (.ref 206)=some (.type "function"):=by kernel_rfl
theorem EX:(ay prog w base ar).ce "TrieStage"=some (.ref 237):=by kernel_rfl
theorem GB:keepIn (ay prog w base ar).K (.ref 237)=true:=by kernel_rfl
theorem G8:MethAt (ay prog w base ar) 237 "finish" 234:=⟨by kernel_rfl,by kernel_rfl,by kernel_rfl⟩
theorem Te:makesIn (ay prog w base ar).K 307=true:=by kernel_rfl
theorem RK:findIn (ay prog w base ar).K (.ref 307) "__init__"=some (some (.ref 262)):=by kernel_rfl
theorem WV:typeIn (ay prog w base ar).K (.ref 262)=some (.type "function"):=by kernel_rfl
theorem ES:(ay prog w base ar).ce "CodeTrie"=some (.ref 307):=by kernel_rfl
theorem Sd:keepIn (ay prog w base ar).K (.ref 307)=true:=by kernel_rfl
theorem OI:eW (ay prog w base ar) 307 "mids":=by kernel_rfl
theorem OJ:eW (ay prog w base ar) 307 "top":=by kernel_rfl
theorem zg:eW (ay prog w base ar) 307 "low_bits":=by kernel_rfl
theorem En:eW (ay prog w base ar) 307 "mid_bits":=by kernel_rfl
theorem OH:eW (ay prog w base ar) 307 "lows":=by kernel_rfl
theorem OK:eW (ay prog w base ar) 307 "values":=by kernel_rfl
theorem Pm:(ay prog w base ar).ce "data_defaults"=some (.ref 423):=by kernel_rfl
theorem Se:keepIn (ay prog w base ar).K (.ref 423)=true:=by kernel_rfl
theorem dP:ClsAt (ay prog w base ar) 461:=⟨fun x=>by kernel_rfl,by kernel_rfl,by kernel_rfl,by kernel_rfl⟩
theorem Wq:takerIn (ay prog w base ar).K 461 "defaults"=some none:=by kernel_rfl
theorem Wr:takerIn (ay prog w base ar).K 461 "maps"=some none:=by kernel_rfl
theorem Ws:takerIn (ay prog w base ar).K 461 "properties"=some none:=by kernel_rfl
theorem Wt:takerIn (ay prog w base ar).K 461 "words"=some none:=by kernel_rfl
theorem jp:eW (ay prog w base ar) 461 "maps":=by kernel_rfl
theorem Hd:makesIn (ay prog w base ar).K 139=true:=by kernel_rfl
theorem Ge:findIn (ay prog w base ar).K (.ref 139) "__init__"=some (some (.ref 110)):=by kernel_rfl
theorem KJ:typeIn (ay prog w base ar).K (.ref 110)=some (.type "function"):=by kernel_rfl
theorem tw:eW (ay prog w base ar) 461 "defaults":=by kernel_rfl
theorem EV:(ay prog w base ar).ce "RangeMap"=some (.ref 139):=by kernel_rfl
theorem Gy:keepIn (ay prog w base ar).K (.ref 139)=true:=by kernel_rfl
theorem G6:MethAt (ay prog w base ar) 461 "map_of" 458:=⟨by kernel_rfl,by kernel_rfl,by kernel_rfl⟩
theorem S7:MethAt (ay prog w base ar) 139 "put" 124:=⟨by kernel_rfl,by kernel_rfl,by kernel_rfl⟩
theorem S6:MethAt (ay prog w base ar) 139 "get" 117:=⟨by kernel_rfl,by kernel_rfl,by kernel_rfl⟩
theorem iR:ClsAt (ay prog w base ar) 496:=⟨fun x=>by kernel_rfl,by kernel_rfl,by kernel_rfl,by kernel_rfl⟩
theorem Wu:takerIn (ay prog w base ar).K 496 "defaults"=some none:=by kernel_rfl
theorem Wv:takerIn (ay prog w base ar).K 496 "maps"=some none:=by kernel_rfl
theorem v3:eW (ay prog w base ar) 461 "properties":=by kernel_rfl
theorem Ww:takerIn (ay prog w base ar).K 496 "properties"=some none:=by kernel_rfl
theorem tx:eW (ay prog w base ar) 461 "words":=by kernel_rfl
theorem Wy:takerIn (ay prog w base ar).K 496 "words"=some none:=by kernel_rfl
theorem Wx:takerIn (ay prog w base ar).K 496 "tries"=some none:=by kernel_rfl
theorem Er:eW (ay prog w base ar) 496 "tries":=by kernel_rfl
theorem S4:MethAt (ay prog w base ar) 307 "get" 280:=⟨by kernel_rfl,by kernel_rfl,by kernel_rfl⟩
theorem Eo:eW (ay prog w base ar) 496 "defaults":=by kernel_rfl
theorem Ep:eW (ay prog w base ar) 496 "maps":=by kernel_rfl
theorem w6:(ay prog w base ar).ce "sorted"=none:=by kernel_rfl
theorem Vo(ok:(ay prog w base ar).Ok){k:Nat}:∀H,qV (ay prog w base ar) k (.st (.ref 307)) H "of" (.ref 270) false:=fun H=>VO (mc:= .type "type") (p:=272) (rest:=[.bool false]) ok (by kernel_rfl) (by kernel_rfl) (by kernel_rfl) (by kernel_rfl) rfl
theorem Sc:keepIn (ay prog w base ar).K (.ref 270)=true:=by kernel_rfl
theorem Tf:makesIn (ay prog w base ar).K 496=true:=by kernel_rfl
theorem RL:findIn (ay prog w base ar).K (.ref 496) "__init__"=some (some (.ref 479)):=by kernel_rfl
theorem WW:typeIn (ay prog w base ar).K (.ref 479)=some (.type "function"):=by kernel_rfl
theorem Pj:(ay prog w base ar).ce "FrozenData"=some (.ref 496):=by kernel_rfl
theorem Sf:keepIn (ay prog w base ar).K (.ref 496)=true:=by kernel_rfl
theorem Hc:makesIn (ay prog w base ar).K 461=true:=by kernel_rfl
theorem Gd:findIn (ay prog w base ar).K (.ref 461) "__init__"=some (some (.ref 437)):=by kernel_rfl
theorem KI:typeIn (ay prog w base ar).K (.ref 437)=some (.type "function"):=by kernel_rfl
theorem ET:(ay prog w base ar).ce "Data"=some (.ref 461):=by kernel_rfl
theorem GC:keepIn (ay prog w base ar).K (.ref 461)=true:=by kernel_rfl
theorem AQ:MethAt (ay prog w base ar) 139 "ranges" 129:=⟨by kernel_rfl,by kernel_rfl,by kernel_rfl⟩
theorem G7:MethAt (ay prog w base ar) 461 "put" 444:=⟨by kernel_rfl,by kernel_rfl,by kernel_rfl⟩
theorem Hl:(ay prog w base ar).ce "ord"=none:=by kernel_rfl
theorem Tt:(ay prog w base ar).ce "chr"=none:=by kernel_rfl
theorem m7:(ay prog w base ar).ce "data_loose"=some (.ref 522):=by kernel_rfl
theorem nk:keepIn (ay prog w base ar).K (.ref 522)=true:=by kernel_rfl
theorem zC:(ay prog w base ar).ce "data_found"=some (.ref 529):=by kernel_rfl
theorem AB:keepIn (ay prog w base ar).K (.ref 529)=true:=by kernel_rfl
theorem Pq:(ay prog w base ar).ce "data_known_properties"=some (.ref 536):=by kernel_rfl
theorem Sj:keepIn (ay prog w base ar).K (.ref 536)=true:=by kernel_rfl
theorem PE:(ay prog w base ar).ce "whole_of"=some (.ref 82):=by kernel_rfl
theorem Sv:keepIn (ay prog w base ar).K (.ref 82)=true:=by kernel_rfl
theorem ue:(ay prog w base ar).ce "int"=none:=by kernel_rfl
theorem E0:(ay prog w base ar).ce "data_number"=some (.ref 601):=by kernel_rfl
theorem GF:keepIn (ay prog w base ar).K (.ref 601)=true:=by kernel_rfl
theorem w7:(ay prog w base ar).ce "str"=none:=by kernel_rfl
theorem Ps:(ay prog w base ar).ce "data_truth_of"=some (.ref 596):=by kernel_rfl
theorem Sl:keepIn (ay prog w base ar).K (.ref 596)=true:=by kernel_rfl
theorem rn:(ay prog w base ar).ce "data_value"=some (.ref 576):=by kernel_rfl
theorem rH:keepIn (ay prog w base ar).K (.ref 576)=true:=by kernel_rfl
theorem Po:(ay prog w base ar).ce "data_is_number"=some (.ref 608):=by kernel_rfl
theorem Sm:keepIn (ay prog w base ar).K (.ref 608)=true:=by kernel_rfl
theorem Pu:(ay prog w base ar).ce "data_value_text"=some (.ref 589):=by kernel_rfl
theorem Sk:keepIn (ay prog w base ar).K (.ref 589)=true:=by kernel_rfl
theorem rQ:MethAt (ay prog w base ar) 461 "get" 451:=⟨by kernel_rfl,by kernel_rfl,by kernel_rfl⟩
theorem EZ:(ay prog w base ar).ce "data_is_value"=some (.ref 613):=by kernel_rfl
theorem GG:keepIn (ay prog w base ar).K (.ref 613)=true:=by kernel_rfl
theorem Pr:(ay prog w base ar).ce "data_ranges"=some (.ref 627):=by kernel_rfl
theorem Sn:keepIn (ay prog w base ar).K (.ref 627)=true:=by kernel_rfl
theorem Pt:(ay prog w base ar).ce "data_value_fault"=some (.ref 646):=by kernel_rfl
theorem So:keepIn (ay prog w base ar).K (.ref 646)=true:=by kernel_rfl
theorem Hm:(ay prog w base ar).ce "range"=none:=by kernel_rfl
theorem pJ:(ay prog w base ar).ce "_law_draw"=some (.ref 685):=by kernel_rfl
theorem p7:keepIn (ay prog w base ar).K (.ref 685)=true:=by kernel_rfl
theorem Py:(ay prog w base ar).ce "_law_points"=some (.ref 661):=by kernel_rfl
theorem wf:(ay prog w base ar).ce "_law_sorts"=some (.ref 668):=by kernel_rfl
theorem wW:keepIn (ay prog w base ar).K (.ref 668)=true:=by kernel_rfl
theorem ro:(ay prog w base ar).ce "_law_told"=some (.ref 704):=by kernel_rfl
theorem rI:keepIn (ay prog w base ar).K (.ref 704)=true:=by kernel_rfl
theorem kN:(ay prog w base ar).ce "repr"=none:=by kernel_rfl
theorem E4:(ay prog w base ar).ce "_law_last"=some (.int 1114111 1149):=by kernel_rfl
theorem zD:(ay prog w base ar).ce "_law_cuts"=some (.ref 716):=by kernel_rfl
theorem AC:keepIn (ay prog w base ar).K (.ref 716)=true:=by kernel_rfl
theorem E3:(ay prog w base ar).ce "_law_joined"=some (.ref 711):=by kernel_rfl
theorem GL:keepIn (ay prog w base ar).K (.ref 711)=true:=by kernel_rfl
theorem tB:(ay prog w base ar).ce "data_property"=some (.ref 569):=by kernel_rfl
theorem t9:keepIn (ay prog w base ar).K (.ref 569)=true:=by kernel_rfl
theorem E1:(ay prog w base ar).ce "data_put_property"=some (.ref 555):=by kernel_rfl
theorem GD:keepIn (ay prog w base ar).K (.ref 555)=true:=by kernel_rfl
theorem E2:(ay prog w base ar).ce "data_put_value"=some (.ref 562):=by kernel_rfl
theorem GE:keepIn (ay prog w base ar).K (.ref 562)=true:=by kernel_rfl
theorem E8:(ay prog w base ar).ce "value_matches"=some (.ref 620):=by kernel_rfl
theorem GH:keepIn (ay prog w base ar).K (.ref 620)=true:=by kernel_rfl
theorem EY:(ay prog w base ar).ce "data_faults"=some (.ref 653):=by kernel_rfl
theorem GI:keepIn (ay prog w base ar).K (.ref 653)=true:=by kernel_rfl
theorem ER:(ay prog w base ar).ce "BadTable"=some (.ref 52):=by kernel_rfl
theorem Pl:(ay prog w base ar).ce "check_data"=some (.ref 660):=by kernel_rfl
theorem Si:keepIn (ay prog w base ar).K (.ref 52)=true:=by kernel_rfl
theorem Sp:keepIn (ay prog w base ar).K (.ref 660)=true:=by kernel_rfl
theorem Pw:(ay prog w base ar).ce "_law_deck"=some (.ref 678):=by kernel_rfl
theorem Sq:keepIn (ay prog w base ar).K (.ref 678)=true:=by kernel_rfl
theorem E6:(ay prog w base ar).ce "_law_puts"=some (.ref 690):=by kernel_rfl
theorem GJ:keepIn (ay prog w base ar).K (.ref 690)=true:=by kernel_rfl
theorem E5:(ay prog w base ar).ce "_law_made"=some (.ref 697):=by kernel_rfl
theorem GK:keepIn (ay prog w base ar).K (.ref 697)=true:=by kernel_rfl
theorem Pp:(ay prog w base ar).ce "data_joined"=some (.ref 515):=by kernel_rfl
theorem Sh:keepIn (ay prog w base ar).K (.ref 515)=true:=by kernel_rfl
theorem Pv:(ay prog w base ar).ce "_law_bits"=some (.ref 673):=by kernel_rfl
theorem Pn:(ay prog w base ar).ce "data_frozen"=some (.ref 508):=by kernel_rfl
theorem Sg:keepIn (ay prog w base ar).K (.ref 508)=true:=by kernel_rfl
theorem Pz:(ay prog w base ar).ce "_law_rows"=some (.ref 721):=by kernel_rfl
theorem Sr:keepIn (ay prog w base ar).K (.ref 721)=true:=by kernel_rfl
theorem AP:MethAt (ay prog w base ar) 496 "get" 486:=⟨by kernel_rfl,by kernel_rfl,by kernel_rfl⟩
theorem S5:MethAt (ay prog w base ar) 496 "map_of" 493:=⟨by kernel_rfl,by kernel_rfl,by kernel_rfl⟩
theorem PA:(ay prog w base ar).ce "_law_words_right"=some (.ref 733):=by kernel_rfl
theorem Su:keepIn (ay prog w base ar).K (.ref 733)=true:=by kernel_rfl
theorem Px:(ay prog w base ar).ce "_law_faults_right"=some (.ref 726):=by kernel_rfl
theorem Ss:keepIn (ay prog w base ar).K (.ref 726)=true:=by kernel_rfl
end
section
variable{prog:Program}{w:World}{base:Heap}{ar:Str→Option Value}
noncomputable def IM:a5:=[("firsts",lc),("number",lc),("low",lc),("high",lc),("middle",lc),("len",bc)]
theorem r4:(IM.map (·.1)).Nodup:=by decide
theorem yx(ok:(ay prog w base ar).Ok):ck (ay prog w base ar) 2 89 nX:=by
 refine cU (nm:=IM) (np:=2) (k:=1) ok (FnAt.of (by rfl) (by kernel_rfl) rfl rfl rfl rfl (fun _ _ _=>gj fun _ _=>BindsTo.of_eq rfl) r4 (by decide) (by decide)) ?_
 exact(aA (cA (i:=2) (bn) r4 rfl (.inl rfl) (fun _=>rfl)) (aA (cA (i:=3) (a' (cf ok rfl kM (by decide+kernel)) (c7 "len") (.ai (ac 0 rfl) .nil) kT) r4 rfl (.inl rfl) (fun _=>rfl)) (aA (J9 (b2 ok (ac 2 rfl) (ac 3 rfl) (by with_unfolding_all rfl)) (aA (cA (i:=4) (cw (cw (ac 2 rfl) (ac 3 rfl)) (bn)) r4 rfl (.inl rfl) (fun _=>rfl)) (aA (cV (b2 ok (b' ok (ac 0 rfl) (ac 4 rfl) (by intro _ _ _;rfl)) (ac 1 rfl) (by with_unfolding_all rfl)) (aA (cA (i:=2) (cw (ac 4 rfl) (bn)) r4 rfl (.inl rfl) (fun _=>rfl)) (aW)) (aA (cA (i:=3) (ac 4 rfl) r4 rfl (.inl rfl) (fun _=>rfl)) (aW))) (aW)))) (aA (b7 (cw (ac 2 rfl) (bn))) (aW)))))
noncomputable def IN:a5:=[("one",lc),("other",lc),("isinstance",bc),("bool",bc)]
theorem T8:(IN.map (·.1)).Nodup:=by decide
theorem vn(ok:(ay prog w base ar).Ok):ck (ay prog w base ar) 1 96 j':=by
 refine cU (nm:=IN) (np:=2) (k:=0) ok (FnAt.of (by rfl) (by kernel_rfl) rfl rfl rfl rfl (fun _ _ _=>gj fun _ _=>BindsTo.of_eq rfl) T8 (by decide) (by decide)) ?_
 exact(aA (b7 (xA (.cons (hO ok (ac 0 rfl) (ac 1 rfl) (by with_unfolding_all rfl)) (.cons (hO ok (a' (cf ok rfl iF (by decide+kernel)) (c7 "isinstance") (.ai (ac 0 rfl) (.ai (cf ok rfl rU (by decide+kernel)) .nil)) iJ) (a' (cf ok rfl iF (by decide+kernel)) (c7 "isinstance") (.ai (ac 1 rfl) (.ai (cf ok rfl rU (by decide+kernel)) .nil)) iJ) (by with_unfolding_all rfl)) .nil)))) (aW))
noncomputable def HE:a5:=[("self",lc),("default",lc)]
theorem TH:(HE.map (·.1)).Nodup:=by decide
theorem CV(ok:(ay prog w base ar).Ok):ck (ay prog w base ar) 1 110 sy:=by
 refine cU (nm:=HE) (np:=2) (k:=0) ok (FnAt.of (by rfl) (by kernel_rfl) rfl rfl rfl rfl (fun _ _ _=>gj fun _ _=>BindsTo.of_eq rfl) TH (by decide) (by decide)) ?_
 exact(aA (eK ok (ac 0 rfl) (ac 1 rfl) f' Wz (fun _=>rfl) (fun _=>rfl)) (aA (eK ok (ac 0 rfl) (dQ (.ai (bn) .nil)) f' Kt (fun _=>rfl) (fun _=>rfl)) (aA (eK ok (ac 0 rfl) (dQ (.ai (ac 1 rfl) .nil)) f' Ku (fun _=>rfl) (fun _=>rfl)) (aW))))
noncomputable def HD:a5:=[("self",lc),("code",lc),("place_by_half",bc)]
theorem TG:(HD.map (·.1)).Nodup:=by decide
theorem L2(ok:(ay prog w base ar).Ok):ck (ay prog w base ar) 3 117 u6:=by
 refine cU (nm:=HD) (np:=2) (k:=2) ok (FnAt.of (by rfl) (by kernel_rfl) rfl rfl rfl rfl (fun _ _ _=>gj fun _ _=>BindsTo.of_eq rfl) TG (by decide) (by decide)) ?_
 exact(aA (b7 (b' ok (b1 ok (ac 0 rfl) f' ri (fun _ _=>rfl)) (a' (bK ok zE rfl) (bJ ok AD) (.ai (b1 ok (ac 0 rfl) f' rh (fun _ _=>rfl)) (.ai (ac 1 rfl) .nil)) ((yx ok).cl rfl)) (by intro _ _ _;rfl))) (aW))
noncomputable def HF:a5:=[("self",lc),("first",lc),("last",lc),("value",lc),("low",lc),("high",lc),("behind",lc),("starts",lc),("values",lc),("place_by_half",bc),("MAX_CODE",bc),("range_are_like",bc)]
theorem rX:(HF.map (·.1)).Nodup:=by decide
theorem L3(ok:(ay prog w base ar).Ok):ck (ay prog w base ar) 3 124 x_:=by
 refine cU (nm:=HF) (np:=4) (k:=2) ok (FnAt.of (by rfl) (by kernel_rfl) rfl rfl rfl rfl (fun _ _ _=>q3 fun _ _ _ _=>BindsTo.of_eq rfl) rX (by decide) (by decide)) ?_
 exact(aA (cV (b2 ok (ac 1 rfl) (ac 2 rfl) (by with_unfolding_all rfl)) (aA (VW) (aW)) (aW)) (aA (cA (i:=4) (cw (a' (bK ok zE rfl) (bJ ok AD) (.ai (b1 ok (ac 0 rfl) f' rh (fun _ _=>rfl)) (.ai (cw (ac 1 rfl) (bn)) .nil)) ((yx ok).cl rfl)) (bn)) rX rfl (.inl rfl) (fun _=>rfl)) (aA (cA (i:=5) (cw (a' (bK ok zE rfl) (bJ ok AD) (.ai (b1 ok (ac 0 rfl) f' rh (fun _ _=>rfl)) (.ai (cw (ac 2 rfl) (bn)) .nil)) ((yx ok).cl rfl)) (bn)) rX rfl (.inl rfl) (fun _=>rfl)) (aA (cA (i:=6) (b' ok (b1 ok (ac 0 rfl) f' ri (fun _ _=>rfl)) (cw (ac 5 rfl) (bn)) (by intro _ _ _;rfl)) rX rfl (.inl rfl) (fun _=>rfl)) (aA (qq rX (d2 (.ai (dQ (.ai (ac 1 rfl) .nil)) (.ai (dQ (.ai (ac 3 rfl) .nil)) .nil))) (.cons (i:=7) rfl (.cons (i:=8) rfl .nil)) rfl (fun _=>rfl)) (aA (cV (iI (.cons (b2 ok (ac 2 rfl) (oM (u:=(.int 1114111)) ok rfl EU (fun _=> .mkInt) rfl) (by with_unfolding_all rfl)) (.cons (BR (hv (a' (bK ok wg rfl) (bJ ok wX) (.ai (ac 6 rfl) (.ai (ac 3 rfl) .nil)) ((vn ok).cl rfl)) (fun _ _=>rfl))) .nil))) (aA (ft (de (ac 7 rfl) (kS PySem.F.slot_list_append mD mu) (.ai (cw (ac 2 rfl) (bn)) .nil) (fun _ _=>rfl) (by rfl) (by decide)) (fun _=>rfl)) (aA (ft (de (ac 8 rfl) (kS PySem.F.slot_list_append mD mu) (.ai (ac 6 rfl) .nil) (fun _ _=>rfl) (by rfl) (by decide)) (fun _=>rfl)) (aW))) (aW)) (aA (cV (iI (.cons (b2 ok (ac 4 rfl) (bn) (by with_unfolding_all rfl)) (.cons (hv (a' (bK ok wg rfl) (bJ ok wX) (.ai (b' ok (b1 ok (ac 0 rfl) f' ri (fun _ _=>rfl)) (cw (ac 4 rfl) (bn)) (by intro _ _ _;rfl)) (.ai (ac 3 rfl) .nil)) ((vn ok).cl rfl)) (fun _ _=>rfl)) .nil))) (aA (qq rX (d2 (.ai (i8 ok (ac 7 rfl) (.some (bn)) .none .none) (.ai (i8 ok (ac 8 rfl) (.some (bn)) .none .none) .nil))) (.cons (i:=7) rfl (.cons (i:=8) rfl .nil)) rfl (fun _=>rfl)) (aW)) (aW)) (aA (eK ok (ac 0 rfl) (cw (cw (i8 ok (b1 ok (ac 0 rfl) f' rh (fun _ _=>rfl)) .none (.some (ac 4 rfl)) .none) (ac 7 rfl)) (i8 ok (b1 ok (ac 0 rfl) f' rh (fun _ _=>rfl)) (.some (ac 5 rfl)) .none .none)) f' Kt (fun _=>rfl) (fun _=>rfl)) (aA (eK ok (ac 0 rfl) (cw (cw (i8 ok (b1 ok (ac 0 rfl) f' ri (fun _ _=>rfl)) .none (.some (ac 4 rfl)) .none) (ac 8 rfl)) (i8 ok (b1 ok (ac 0 rfl) f' ri (fun _ _=>rfl)) (.some (ac 5 rfl)) .none .none)) f' Ku (fun _=>rfl) (fun _=>rfl)) (aW))))))))))
noncomputable def IO:a5:=[("range_map",lc),("starts",lc),("found",lc),("at",lc),("value",lc),("last",lc),("enumerate",bc),("len",bc),("MAX_CODE",bc)]
theorem xd:(IO.map (·.1)).Nodup:=by decide
theorem C8(ok:(ay prog w base ar).Ok):ck (ay prog w base ar) 3 150 u':=by
 refine cU (nm:=IO) (np:=1) (k:=2) ok (FnAt.of (by rfl) (by kernel_rfl) rfl rfl rfl rfl (fun _ _ _=>ix fun _=>BindsTo.of_eq rfl) xd (by decide) (by decide)) ?_
 exact(aA (qq xd (d2 (.ai (b1 ok (ac 0 rfl) f' rh (fun _ _=>rfl)) (.ai (dQ .nil) .nil))) (.cons (i:=1) rfl (.cons (i:=2) rfl .nil)) rfl (fun _=>rfl)) (aA (eU (BO (cf ok rfl A0 (by decide+kernel)) (ur (b1 ok (ac 0 rfl) f' ri (fun _ _=>rfl)))) (jZ xd (.cons (i:=3) rfl (.inl rfl) (.cons (i:=4) rfl (.inl rfl) .nil))) (aA (cA (i:=5) (gJ (b2 ok (cw (ac 3 rfl) (bn)) (a' (cf ok rfl kM (by decide+kernel)) (c7 "len") (.ai (ac 1 rfl) .nil) kT) (by with_unfolding_all rfl)) (cw (b' ok (ac 1 rfl) (cw (ac 3 rfl) (bn)) (by intro _ _ _;rfl)) (bn)) (oM (u:=(.int 1114111)) ok rfl EU (fun _=> .mkInt) rfl)) xd rfl (.inl rfl) (fun _=>rfl)) (aA (ft (de (ac 2 rfl) (kS PySem.F.slot_list_append mD mu) (.ai (d2 (.ai (b' ok (ac 1 rfl) (ac 3 rfl) (by intro _ _ _;rfl)) (.ai (ac 5 rfl) (.ai (ac 4 rfl) .nil)))) .nil) (fun _ _=>rfl) (by rfl) (by decide)) (fun _=>rfl)) (aW))) (fun _ _=>rfl)) (aA (b7 (ac 2 rfl)) (aW))))
noncomputable def A4:a5:=[("self", .cell),("range_rows",bc)]
theorem HI:(A4.map (·.1)).Nodup:=by decide
noncomputable def HG:a5:=[(".0",lc),("row",lc),("range_are_like",bc),("self", .free)]
theorem HH:(HG.map (·.1)).Nodup:=by decide
theorem TI:hY A4 HG [(3,0)]:=iS (by decide)
theorem yt(ok:(ay prog w base ar).Ok):ck (ay prog w base ar) 5 129 nU:=by
 refine cU (nm:=A4) (np:=1) (k:=4) ok (FnAt.of (by rfl) (by kernel_rfl) rfl rfl rfl rfl (fun _ _ _=>ix fun _=>BindsTo.of_eq rfl) HI (by decide) (by decide)) ?_
 exact(aA (b7 (jY ⟨rfl,rfl,HI,HH,by decide,TI⟩ (dX (a' (bK ok E7 rfl) (bJ ok Gz) (.ai (ac 0 rfl) .nil) ((C8 ok).cl rfl))) (eB (i:=1) HH rfl (.inl rfl)) (qp (BR (hv (a' (bK ok wg rfl) (bJ ok wX) (.ai (b' ok (ac 1 rfl) (bn) (by intro _ _ _;rfl)) (.ai (b1 ok (ac 3 rfl) f' OL (fun _ _=>rfl)) .nil)) ((vn ok).cl rfl)) (fun _ _=>rfl)))) (ac 1 rfl) (fun _ _=>rfl))) (aW))
noncomputable def IP:a5:=[("runs",lc),("many",lc),("number",lc)]
theorem T9:(IP.map (·.1)).Nodup:=by decide
theorem vo(ok:(ay prog w base ar).Ok):ck (ay prog w base ar) 1 157 lQ:=by
 refine cU (nm:=IP) (np:=3) (k:=0) ok (FnAt.of (by rfl) (by kernel_rfl) rfl rfl rfl rfl (fun _ _ _=>ko fun _ _ _=>BindsTo.of_eq rfl) T9 (by decide) (by decide)) ?_
 exact(aA (cV (iI (.cons (b2 ok (ac 0 rfl) (dQ .nil) (by with_unfolding_all rfl)) (.cons (b2 ok (b' ok (b' ok (ac 0 rfl) (oO (bn)) (by intro _ _ _;rfl)) (bn) (by intro _ _ _;rfl)) (ac 2 rfl) (by with_unfolding_all rfl)) .nil))) (aA (iK (d2 (.ai (cw (b' ok (b' ok (ac 0 rfl) (oO (bn)) (by intro _ _ _;rfl)) (bn) (by intro _ _ _;rfl)) (ac 1 rfl)) (.ai (ac 2 rfl) .nil))) (ac 0 rfl) (oO (bn)) (fun _=>rfl) (fun _=>rfl)) (aW)) (aA (ft (de (ac 0 rfl) (kS PySem.F.slot_list_append mD mu) (.ai (d2 (.ai (ac 1 rfl) (.ai (ac 2 rfl) .nil))) .nil) (fun _ _=>rfl) (by rfl) (by decide)) (fun _=>rfl)) (aW))) (aW))
end
section
variable{prog:Program}{w:World}{base:Heap}{ar:Str→Option Value}
noncomputable def IR:a5:=[("values",lc),("value",lc),("number",lc),("known",lc),("enumerate",bc),("range_are_like",bc),("len",bc)]
theorem IS:(IR.map (·.1)).Nodup:=by decide
theorem Mi(ok:(ay prog w base ar).Ok):ck (ay prog w base ar) 3 164 va:=by
 refine cU (nm:=IR) (np:=2) (k:=2) ok (FnAt.of (by rfl) (by kernel_rfl) rfl rfl rfl rfl (fun _ _ _=>gj fun _ _=>BindsTo.of_eq rfl) IS (by decide) (by decide)) ?_
 exact(aA (eU (BO (cf ok rfl A0 (by decide+kernel)) (ur (ac 0 rfl))) (jZ IS (.cons (i:=2) rfl (.inl rfl) (.cons (i:=3) rfl (.inl rfl) .nil))) (aA (cV (hv (a' (bK ok wg rfl) (bJ ok wX) (.ai (ac 3 rfl) (.ai (ac 1 rfl) .nil)) ((vn ok).cl rfl)) (fun _ _=>rfl)) (aA (b7 (ac 2 rfl)) (aW)) (aW)) (aW)) (fun _ _=>rfl)) (aA (ft (de (ac 0 rfl) (kS PySem.F.slot_list_append mD mu) (.ai (ac 1 rfl) .nil) (fun _ _=>rfl) (by rfl) (by decide)) (fun _=>rfl)) (aA (b7 (cw (a' (cf ok rfl kM (by decide+kernel)) (c7 "len") (.ai (ac 0 rfl) .nil) kT) (bn))) (aW))))
noncomputable def IT:a5:=[("range_map",lc),("values",lc),("runs",lc),("first",lc),("last",lc),("value",lc),("range_rows",bc),("trie_add",bc),("trie_value_number",bc)]
theorem xe:(IT.map (·.1)).Nodup:=by decide
theorem Mj(ok:(ay prog w base ar).Ok):ck (ay prog w base ar) 5 171 vb:=by
 refine cU (nm:=IT) (np:=1) (k:=4) ok (FnAt.of (by rfl) (by kernel_rfl) rfl rfl rfl rfl (fun _ _ _=>ix fun _=>BindsTo.of_eq rfl) xe (by decide) (by decide)) ?_
 exact(aA (cA (i:=1) (dQ .nil) xe rfl (.inl rfl) (fun _=>rfl)) (aA (cA (i:=2) (dQ .nil) xe rfl (.inl rfl) (fun _=>rfl)) (aA (eU (dX (a' (bK ok E7 rfl) (bJ ok Gz) (.ai (ac 0 rfl) .nil) ((C8 ok).cl rfl))) (jZ xe (.cons (i:=3) rfl (.inl rfl) (.cons (i:=4) rfl (.inl rfl) (.cons (i:=5) rfl (.inl rfl) .nil)))) (aA (ft (a' (bK ok wh rfl) (bJ ok wV) (.ai (ac 2 rfl) (.ai (cw (cw (ac 4 rfl) (ac 3 rfl)) (bn)) (.ai (a' (bK ok PC rfl) (bJ ok R') (.ai (ac 1 rfl) (.ai (ac 5 rfl) .nil)) ((Mi ok).cl rfl)) .nil))) ((vo ok).cl rfl)) (fun _=>rfl)) (aW)) (fun _ _=>rfl)) (aA (b7 (d2 (.ai (ac 1 rfl) (.ai (ac 2 rfl) .nil)))) (aW)))))
noncomputable def HJ:a5:=[("self",lc),("runs",lc),("many",lc),("number",lc)]
theorem HK:(HJ.map (·.1)).Nodup:=by decide
theorem CW(ok:(ay prog w base ar).Ok):ck (ay prog w base ar) 3 185 sz:=by
 refine cU (nm:=HJ) (np:=2) (k:=2) ok (FnAt.of (by rfl) (by kernel_rfl) rfl rfl rfl rfl (fun _ _ _=>gj fun _ _=>BindsTo.of_eq rfl) HK (by decide) (by decide)) ?_
 exact(aA (eK ok (ac 0 rfl) (ac 1 rfl) q6 WB (fun _=>rfl) (fun _=>rfl)) (aA (eK ok (ac 0 rfl) (dQ .nil) q6 WA (fun _=>rfl) (fun _=>rfl)) (aA (eU (dX (ac 1 rfl)) (jZ HK (.cons (i:=2) rfl (.inl rfl) (.cons (i:=3) rfl (.inl rfl) .nil))) (aA (ft (de (b1 ok (ac 0 rfl) q6 v5 (fun _ _=>rfl)) (kS PySem.F.slot_list_extend WX VJ) (.ai (cw (dQ (.ai (ac 3 rfl) .nil)) (ac 2 rfl)) .nil) (fun _ _=>rfl) (by rfl) (by decide)) (fun _=>rfl)) (aW)) (fun _ _=>rfl)) (aW))))
noncomputable def HN:a5:=[("self",lc),("size",lc)]
theorem TL:(HN.map (·.1)).Nodup:=by decide
theorem CY(ok:(ay prog w base ar).Ok):ck (ay prog w base ar) 1 206 sB:=by
 refine cU (nm:=HN) (np:=2) (k:=0) ok (FnAt.of (by rfl) (by kernel_rfl) rfl rfl rfl rfl (fun _ _ _=>gj fun _ _=>BindsTo.of_eq rfl) TL (by decide) (by decide)) ?_
 exact(aA (eK ok (ac 0 rfl) (ac 1 rfl) dL WF (fun _=>rfl) (fun _=>rfl)) (aA (eK ok (ac 0 rfl) (dQ .nil) dL WE (fun _=>rfl) (fun _=>rfl)) (aA (eK ok (ac 0 rfl) (VR) dL WD (fun _=>rfl) (fun _=>rfl)) (aA (eK ok (ac 0 rfl) (dQ .nil) dL WC (fun _=>rfl) (fun _=>rfl)) (aA (eK ok (ac 0 rfl) (dQ .nil) dL Kv (fun _=>rfl) (fun _=>rfl)) (aA (eK ok (ac 0 rfl) (bn) dL B7 (fun _=>rfl) (fun _=>rfl)) (aW)))))))
noncomputable def HP:a5:=[("self",lc),("runs",lc),("key",lc),("tuple",bc),("len",bc),("TrieRow",bc)]
theorem HQ:(HP.map (·.1)).Nodup:=by decide
theorem CZ(ok:(ay prog w base ar).Ok):ck (ay prog w base ar) 5 213 qI:=by
 refine cU (nm:=HP) (np:=2) (k:=4) ok (FnAt.of (by rfl) (by kernel_rfl) rfl rfl rfl rfl (fun _ _ _=>gj fun _ _=>BindsTo.of_eq rfl) HQ (by decide) (by decide)) ?_
 exact(aA (cA (i:=2) (a' (cf ok rfl rV (by decide+kernel)) (q7 "tuple") (.ai (ac 1 rfl) .nil) xF) HQ rfl (.inl rfl) (fun _=>rfl)) (aA (cV (J1 (neg:=true) ok (ac 2 rfl) (b1 ok (ac 0 rfl) dL zj (fun _ _=>rfl)) (by with_unfolding_all rfl)) (aA (iK (a' (cf ok rfl kM (by decide+kernel)) (c7 "len") (.ai (b1 ok (ac 0 rfl) dL v7 (fun _ _=>rfl)) .nil) kT) (b1 ok (ac 0 rfl) dL zj (fun _ _=>rfl)) (ac 2 rfl) (fun _=>rfl) (fun _=>rfl)) (aA (ft (de (b1 ok (ac 0 rfl) dL v7 (fun _ _=>rfl)) (kS PySem.F.slot_list_append mD mu) (.ai (a' (bK ok EW rfl) (bJ ok GA) (.ai (ac 1 rfl) .nil) (mv ok He Gf KK ((CW ok).up rfl))) .nil) (fun _ _=>rfl) (by rfl) (by decide)) (fun _=>rfl)) (aW))) (aW)) (aA (b7 (J8 (b1 ok (ac 0 rfl) dL zj (fun _ _=>rfl)) (ac 2 rfl) (fun _ _=>rfl))) (aW))))
noncomputable def HL:a5:=[("self",lc),("trie_add",bc)]
theorem TJ:(HL.map (·.1)).Nodup:=by decide
theorem L4(ok:(ay prog w base ar).Ok):ck (ay prog w base ar) 6 220 sA:=by
 refine cU (nm:=HL) (np:=1) (k:=5) ok (FnAt.of (by rfl) (by kernel_rfl) rfl rfl rfl rfl (fun _ _ _=>ix fun _=>BindsTo.of_eq rfl) TJ (by decide) (by decide)) ?_
 exact(aA (ft (a' (bK ok wh rfl) (bJ ok wV) (.ai (b1 ok (ac 0 rfl) dL zi (fun _ _=>rfl)) (.ai (bn) (.ai (de (ac 0 rfl) (fe ok dL G9 ((CZ ok).up rfl)) (.ai (b1 ok (ac 0 rfl) dL zh (fun _ _=>rfl)) .nil) (fun _ _=>rfl) (by rfl) (by decide)) .nil))) ((vo ok).cl rfl)) (fun _=>rfl)) (aA (eK ok (ac 0 rfl) (dQ .nil) dL Kv (fun _=>rfl) (fun _=>rfl)) (aA (eK ok (ac 0 rfl) (bn) dL B7 (fun _=>rfl) (fun _=>rfl)) (aW))))
noncomputable def HO:a5:=[("self",lc),("many",lc),("number",lc),("left",lc),("whole",lc),("part",lc),("trie_add",bc),("min",bc)]
theorem rY:(HO.map (·.1)).Nodup:=by decide
theorem yu(ok:(ay prog w base ar).Ok):ck (ay prog w base ar) 8 227 oX:=by
 refine cU (nm:=HO) (np:=3) (k:=7) ok (FnAt.of (by rfl) (by kernel_rfl) rfl rfl rfl rfl (fun _ _ _=>ko fun _ _ _=>BindsTo.of_eq rfl) rY (by decide) (by decide)) ?_
 exact(aA (cA (i:=3) (ac 1 rfl) rY rfl (.inl rfl) (fun _=>rfl)) (aA (J9 (b2 ok (ac 3 rfl) (bn) (by with_unfolding_all rfl)) (aA (cV (iI (.cons (b2 ok (b1 ok (ac 0 rfl) dL rj (fun _ _=>rfl)) (bn) (by with_unfolding_all rfl)) (.cons (b2 ok (ac 3 rfl) (b1 ok (ac 0 rfl) dL pF (fun _ _=>rfl)) (by with_unfolding_all rfl)) .nil))) (aA (cA (i:=4) (cw (ac 3 rfl) (b1 ok (ac 0 rfl) dL pF (fun _ _=>rfl))) rY rfl (.inl rfl) (fun _=>rfl)) (aA (ft (a' (bK ok wh rfl) (bJ ok wV) (.ai (b1 ok (ac 0 rfl) dL zi (fun _ _=>rfl)) (.ai (ac 4 rfl) (.ai (de (ac 0 rfl) (fe ok dL G9 ((CZ ok).up rfl)) (.ai (dQ (.ai (d2 (.ai (b1 ok (ac 0 rfl) dL pF (fun _ _=>rfl)) (.ai (ac 2 rfl) .nil))) .nil)) .nil) (fun _ _=>rfl) (by rfl) (by decide)) .nil))) ((vo ok).cl rfl)) (fun _=>rfl)) (aA (cA (i:=3) (cw (ac 3 rfl) (cw (ac 4 rfl) (b1 ok (ac 0 rfl) dL pF (fun _ _=>rfl)))) rY rfl (.inl rfl) (fun _=>rfl)) (aW)))) (aA (cA (i:=5) (a' (cf ok rfl Tu (by decide+kernel)) (c7 "min") (.ai (ac 3 rfl) (.ai (cw (b1 ok (ac 0 rfl) dL pF (fun _ _=>rfl)) (b1 ok (ac 0 rfl) dL rj (fun _ _=>rfl))) .nil)) VP) rY rfl (.inl rfl) (fun _=>rfl)) (aA (ft (a' (bK ok wh rfl) (bJ ok wV) (.ai (b1 ok (ac 0 rfl) dL zh (fun _ _=>rfl)) (.ai (ac 5 rfl) (.ai (ac 2 rfl) .nil))) ((vo ok).cl rfl)) (fun _=>rfl)) (aA (eK ok (ac 0 rfl) (cw (b1 ok (ac 0 rfl) dL rj (fun _ _=>rfl)) (ac 5 rfl)) dL B7 (fun _=>rfl) (fun _=>rfl)) (aA (cA (i:=3) (cw (ac 3 rfl) (ac 5 rfl)) rY rfl (.inl rfl) (fun _=>rfl)) (aA (cV (b2 ok (b1 ok (ac 0 rfl) dL rj (fun _ _=>rfl)) (b1 ok (ac 0 rfl) dL pF (fun _ _=>rfl)) (by with_unfolding_all rfl)) (aA (ft (de (ac 0 rfl) (fe ok dL S8 ((L4 ok).up rfl)) .nil (fun _ _=>rfl) (by rfl) (by decide)) (fun _=>rfl)) (aW)) (aW)) (aW))))))) (aW))) (aW)))
noncomputable def HM:a5:=[("self",lc)]
theorem TK:(HM.map (·.1)).Nodup:=by decide
theorem CX(ok:(ay prog w base ar).Ok):ck (ay prog w base ar) 9 234 u7:=by
 refine cU (nm:=HM) (np:=1) (k:=8) ok (FnAt.of (by rfl) (by kernel_rfl) rfl rfl rfl rfl (fun _ _ _=>ix fun _=>BindsTo.of_eq rfl) TK (by decide) (by decide)) ?_
 exact(aA (cV (b2 ok (b1 ok (ac 0 rfl) dL rj (fun _ _=>rfl)) (bn) (by with_unfolding_all rfl)) (aA (ft (de (ac 0 rfl) (fe ok dL AR ((yu ok).up rfl)) (.ai (cw (b1 ok (ac 0 rfl) dL pF (fun _ _=>rfl)) (b1 ok (ac 0 rfl) dL rj (fun _ _=>rfl))) (.ai (b' ok (b' ok (b1 ok (ac 0 rfl) dL zh (fun _ _=>rfl)) (oO (bn)) (by intro _ _ _;rfl)) (bn) (by intro _ _ _;rfl)) .nil)) (fun _ _=>rfl) (by rfl) (by decide)) (fun _=>rfl)) (aW)) (aW)) (aA (b7 (b1 ok (ac 0 rfl) dL zi (fun _ _=>rfl))) (aW)))
end
section
variable{prog:Program}{w:World}{base:Heap}{ar:Str→Option Value}
noncomputable def IQ:a5:=[("low_bits",lc),("mid_bits",lc),("TRIE_MOST_BITS",bc),("BadTable",bc)]
theorem T_:(IQ.map (·.1)).Nodup:=by decide
theorem Mh(ok:(ay prog w base ar).Ok):ck (ay prog w base ar) 1 248 ye:=by
 refine cU (nm:=IQ) (np:=2) (k:=0) ok (FnAt.of (by rfl) (by kernel_rfl) rfl rfl rfl rfl (fun _ _ _=>gj fun _ _=>BindsTo.of_eq rfl) T_ (by decide) (by decide)) ?_
 exact(aA (cV (uJ (.cons (b2 ok (ac 0 rfl) (bn) (by with_unfolding_all rfl)) (.cons (b2 ok (ac 1 rfl) (bn) (by with_unfolding_all rfl)) (.cons (b2 ok (cw (ac 0 rfl) (ac 1 rfl)) (oM (u:=(.int 16)) ok rfl Pk (fun _=> .mkInt) rfl) (by with_unfolding_all rfl)) .nil)))) (aA (VK) (aW)) (aW)) (aW))
noncomputable def Ht:a5:=[("self",lc),("low_bits",lc),("mid_bits",lc),("values",lc),("lows",lc),("mids",lc),("top",lc)]
theorem Tx:(Ht.map (·.1)).Nodup:=by decide
theorem LY(ok:(ay prog w base ar).Ok):ck (ay prog w base ar) 1 262 x8:=by
 refine cU (nm:=Ht) (np:=7) (k:=0) ok (FnAt.of (by rfl) (by kernel_rfl) rfl rfl rfl rfl (fun _ _ _=>MQ fun _ _ _ _ _ _ _=>BindsTo.of_eq rfl) Tx (by decide) (by decide)) ?_
 exact(aA (eK ok (ac 0 rfl) (ac 1 rfl) iy Wk (fun _=>rfl) (fun _=>rfl)) (aA (eK ok (ac 0 rfl) (ac 2 rfl) iy Wm (fun _=>rfl) (fun _=>rfl)) (aA (eK ok (ac 0 rfl) (ac 3 rfl) iy Wp (fun _=>rfl) (fun _=>rfl)) (aA (eK ok (ac 0 rfl) (ac 4 rfl) iy Wl (fun _=>rfl) (fun _=>rfl)) (aA (eK ok (ac 0 rfl) (ac 5 rfl) iy Wn (fun _=>rfl) (fun _=>rfl)) (aA (eK ok (ac 0 rfl) (ac 6 rfl) iy Wo (fun _=>rfl) (fun _=>rfl)) (aW)))))))
noncomputable def Hu:a5:=[("range_map",lc),("low_bits",lc),("mid_bits",lc),("values",lc),("runs",lc),("low",lc),("many",lc),("number",lc),("mid",lc),("trie_check_bits",bc),("trie_value_runs",bc),("TrieStage",bc),("CodeTrie",bc),("TrieRow",bc)]
theorem rW:(Hu.map (·.1)).Nodup:=by decide
theorem LZ(ok:(ay prog w base ar).Ok):ck (ay prog w base ar) 11 270 u5:=by
 refine cU (nm:=Hu) (np:=3) (k:=10) ok (FnAt.of (by rfl) (by kernel_rfl) rfl rfl rfl rfl (by intro _ _ az;refine ko ?_;intro _ _ _;exact BindsTo.of_defaults rfl (az _ _ (ok.K _ _ (by show(hd.heap_1 w.params).lookup _=_;rfl))) rfl rfl rfl) rW (by decide) (by decide)) ?_
 exact(aA (ft (a' (bK ok PB rfl) (bJ ok Sb) (.ai (ac 1 rfl) (.ai (ac 2 rfl) .nil)) ((Mh ok).cl rfl)) (fun _=>rfl)) (aA (xG rW (a' (bK ok PD rfl) (bJ ok Sa) (.ai (ac 0 rfl) .nil) ((Mj ok).cl rfl)) (.cons (i:=3) rfl (.inl rfl) (.cons (i:=4) rfl (.inl rfl) .nil)) (fun _=>rfl) (fun _=>rfl)) (aA (cA (i:=5) (a' (bK ok EX rfl) (bJ ok GB) (.ai (cw (bn) (ac 1 rfl)) .nil) (mv ok Hf Gg KL ((CY ok).up rfl))) rW rfl (.inl rfl) (fun _=>rfl)) (aA (eU (dX (ac 4 rfl)) (jZ rW (.cons (i:=6) rfl (.inl rfl) (.cons (i:=7) rfl (.inl rfl) .nil))) (aA (ft (de (ac 5 rfl) (fe ok dL AR ((yu ok).up rfl)) (.ai (ac 6 rfl) (.ai (ac 7 rfl) .nil)) (fun _ _=>rfl) (by rfl) (by decide)) (fun _=>rfl)) (aW)) (fun _ _=>rfl)) (aA (cA (i:=8) (a' (bK ok EX rfl) (bJ ok GB) (.ai (cw (bn) (ac 2 rfl)) .nil) (mv ok Hf Gg KL ((CY ok).up rfl))) rW rfl (.inl rfl) (fun _=>rfl)) (aA (eU (dX (de (ac 5 rfl) (fe ok dL G8 ((CX ok).up rfl)) .nil (fun _ _=>rfl) (by rfl) (by decide))) (jZ rW (.cons (i:=6) rfl (.inl rfl) (.cons (i:=7) rfl (.inl rfl) .nil))) (aA (ft (de (ac 8 rfl) (fe ok dL AR ((yu ok).up rfl)) (.ai (ac 6 rfl) (.ai (ac 7 rfl) .nil)) (fun _ _=>rfl) (by rfl) (by decide)) (fun _=>rfl)) (aW)) (fun _ _=>rfl)) (aA (b7 (a' (bK ok ES rfl) (bJ ok Sd) (.ai (ac 1 rfl) (.ai (ac 2 rfl) (.ai (ac 3 rfl) (.ai (b1 ok (ac 5 rfl) dL v7 (fun _ _=>rfl)) (.ai (b1 ok (ac 8 rfl) dL v7 (fun _ _=>rfl)) (.ai (a' (bK ok EW rfl) (bJ ok GA) (.ai (de (ac 8 rfl) (fe ok dL G8 ((CX ok).up rfl)) .nil (fun _ _=>rfl) (by rfl) (by decide)) .nil) (mv ok He Gf KK ((CW ok).up rfl))) .nil)))))) (mv ok Te RK WV ((LY ok).up rfl)))) (aW))))))))
noncomputable def Hs:a5:=[("self",lc),("code",lc),("mid",lc),("low",lc)]
theorem A3:(Hs.map (·.1)).Nodup:=by decide
theorem LX(ok:(ay prog w base ar).Ok):ck (ay prog w base ar) 1 280 x7:=by
 refine cU (nm:=Hs) (np:=2) (k:=0) ok (FnAt.of (by rfl) (by kernel_rfl) rfl rfl rfl rfl (fun _ _ _=>gj fun _ _=>BindsTo.of_eq rfl) A3 (by decide) (by decide)) ?_
 exact(aA (cA (i:=2) (b' ok (b1 ok (ac 0 rfl) iy OI (fun _ _=>rfl)) (b' ok (b1 ok (b1 ok (ac 0 rfl) iy OJ (fun _ _=>rfl)) q6 v5 (fun _ _=>rfl)) (cw (ac 1 rfl) (cw (b1 ok (ac 0 rfl) iy zg (fun _ _=>rfl)) (b1 ok (ac 0 rfl) iy En (fun _ _=>rfl)))) (by intro _ _ _;rfl)) (by intro _ _ _;rfl)) A3 rfl (.inl rfl) (fun _=>rfl)) (aA (cA (i:=3) (b' ok (b1 ok (ac 0 rfl) iy OH (fun _ _=>rfl)) (b' ok (b1 ok (ac 2 rfl) q6 v5 (fun _ _=>rfl)) (cw (cw (ac 1 rfl) (b1 ok (ac 0 rfl) iy zg (fun _ _=>rfl))) (cw (cw (bn) (b1 ok (ac 0 rfl) iy En (fun _ _=>rfl))) (bn))) (by intro _ _ _;rfl)) (by intro _ _ _;rfl)) A3 rfl (.inl rfl) (fun _=>rfl)) (aA (b7 (b' ok (b1 ok (ac 0 rfl) iy OK (fun _ _=>rfl)) (b' ok (b1 ok (ac 3 rfl) q6 v5 (fun _ _=>rfl)) (cw (ac 1 rfl) (cw (cw (bn) (b1 ok (ac 0 rfl) iy zg (fun _ _=>rfl))) (bn))) (by intro _ _ _;rfl)) (by intro _ _ _;rfl))) (aW))))
noncomputable def HT:a5:=[("found",lc),("name",lc)]
theorem rZ:(HT.map (·.1)).Nodup:=by decide
theorem L5(ok:(ay prog w base ar).Ok):ck (ay prog w base ar) 2 423 x':=by
 refine cU (nm:=HT) (np:=0) (k:=1) ok (FnAt.of (by rfl) (by kernel_rfl) rfl rfl rfl rfl (by intro s vals az au;obtain rfl:=len0 au;refine BindsTo.of_eq ?_;unfold bindArgs;rfl) rZ (by decide) (by decide)) ?_
 exact(@aA _ _ _ _ _ _ _ (@cA _ _ _ 0 _ _ _ _ _ _ (@BL _ _ _ _ _ _ _ _ (kI (@a8 _ _ _ _ _ _) (kI (@a8 _ _ _ _ _ _) (kI (@a8 _ _ _ _ _ _) (kI (@a8 _ _ _ _ _ _) (kI (@a8 _ _ _ _ _ _) (kI (@a8 _ _ _ _ _ _) (kI (@a8 _ _ _ _ _ _) (kI (@a8 _ _ _ _ _ _) .nil)))))))) (.cons (@a8 _ _ _ _ _ _) (.cons (@bn _ _ _ _ _ _) (.cons (@a8 _ _ _ _ _ _) (.cons (@a8 _ _ _ _ _ _) (.cons (@a8 _ _ _ _ _ _) (.cons (@a8 _ _ _ _ _ _) (.cons (@a8 _ _ _ _ _ _) (.cons (@a8 _ _ _ _ _ _) .nil)))))))) (by rfl) (by rfl) (by nofun) (by decide)) rZ rfl (.inl rfl) (fun _=>rfl)) (@aA _ _ _ _ _ _ _ (@eU _ _ _ _ _ _ _ _ _ _ (@dX _ _ _ _ _ _ (@d2 _ _ _ _ _ _ _ (.ai (@a8 _ _ _ _ _ _) (.ai (@a8 _ _ _ _ _ _) (.ai (@a8 _ _ _ _ _ _) .nil))))) (@eB _ _ _ 1 _ _ _ rZ rfl (.inl rfl)) (@aA _ _ _ _ _ _ _ (@iK _ _ _ _ _ _ _ _ _ _ _ (@a8 _ _ _ _ _ _) (ac 0 rfl) (ac 1 rfl) (fun _=>rfl) (fun _=>rfl)) (@aW _ _ _)) (fun _ _=>rfl)) (@aA _ _ _ _ _ _ _ (@eU _ _ _ _ _ _ _ _ _ _ (@dX _ _ _ _ _ _ (@d2 _ _ _ _ _ _ _ (.ai (@a8 _ _ _ _ _ _) (.ai (@a8 _ _ _ _ _ _) (.ai (@a8 _ _ _ _ _ _) (.ai (@a8 _ _ _ _ _ _) (.ai (@a8 _ _ _ _ _ _) (.ai (@a8 _ _ _ _ _ _) (.ai (@a8 _ _ _ _ _ _) (.ai (@a8 _ _ _ _ _ _) (.ai (@a8 _ _ _ _ _ _) (.ai (@a8 _ _ _ _ _ _) (.ai (@a8 _ _ _ _ _ _) (.ai (@a8 _ _ _ _ _ _) (.ai (@a8 _ _ _ _ _ _) .nil))))))))))))))) (@eB _ _ _ 1 _ _ _ rZ rfl (.inl rfl)) (@aA _ _ _ _ _ _ _ (@iK _ _ _ _ _ _ _ _ _ _ _ (@ii _ _ _ _ _ _) (ac 0 rfl) (ac 1 rfl) (fun _=>rfl) (fun _=>rfl)) (@aW _ _ _)) (fun _ _=>rfl)) (@aA _ _ _ _ _ _ _ (@eU _ _ _ _ _ _ _ _ _ _ (@dX _ _ _ _ _ _ (@d2 _ _ _ _ _ _ _ (.ai (@a8 _ _ _ _ _ _) (.ai (@a8 _ _ _ _ _ _) (.ai (@a8 _ _ _ _ _ _) (.ai (@a8 _ _ _ _ _ _) (.ai (@a8 _ _ _ _ _ _) (.ai (@a8 _ _ _ _ _ _) (.ai (@a8 _ _ _ _ _ _) (.ai (@a8 _ _ _ _ _ _) (.ai (@a8 _ _ _ _ _ _) (.ai (@a8 _ _ _ _ _ _) (.ai (@a8 _ _ _ _ _ _) (.ai (@a8 _ _ _ _ _ _) (.ai (@a8 _ _ _ _ _ _) .nil))))))))))))))) (@eB _ _ _ 1 _ _ _ rZ rfl (.inl rfl)) (@aA _ _ _ _ _ _ _ (@iK _ _ _ _ _ _ _ _ _ _ _ (@eF _ _ _ _ _) (ac 0 rfl) (ac 1 rfl) (fun _=>rfl) (fun _=>rfl)) (@aW _ _ _)) (fun _ _=>rfl)) (@aA _ _ _ _ _ _ _ (@eU _ _ _ _ _ _ _ _ _ _ (@dX _ _ _ _ _ _ (@d2 _ _ _ _ _ _ _ (.ai (@a8 _ _ _ _ _ _) (.ai (@a8 _ _ _ _ _ _) (.ai (@a8 _ _ _ _ _ _) (.ai (@a8 _ _ _ _ _ _) .nil)))))) (@eB _ _ _ 1 _ _ _ rZ rfl (.inl rfl)) (@aA _ _ _ _ _ _ _ (@iK _ _ _ _ _ _ _ _ _ _ _ (@d2 _ _ _ _ _ _ _ .nil) (ac 0 rfl) (ac 1 rfl) (fun _=>rfl) (fun _=>rfl)) (@aW _ _ _)) (fun _ _=>rfl)) (@aA _ _ _ _ _ _ _ (@iK _ _ _ _ _ _ _ _ _ _ _ (@d2 _ _ _ _ _ _ _ (.ai (@a8 _ _ _ _ _ _) (.ai (@d2 _ _ _ _ _ _ _ .nil) .nil))) (ac 0 rfl) (@a8 _ _ _ _ _ _) (fun _=>rfl) (fun _=>rfl)) (@aA _ _ _ _ _ _ _ (@b7 _ _ _ _ _ _ (ac 0 rfl)) (@aW _ _ _))))))))
noncomputable def Hx:a5:=[("self",lc),("data_defaults",bc)]
theorem TA:(Hx.map (·.1)).Nodup:=by decide
theorem CT(ok:(ay prog w base ar).Ok):ck (ay prog w base ar) 3 437 sv:=by
 refine cU (nm:=Hx) (np:=1) (k:=2) ok (FnAt.of (by rfl) (by kernel_rfl) rfl rfl rfl rfl (fun _ _ _=>ix fun _=>BindsTo.of_eq rfl) TA (by decide) (by decide)) ?_
 exact(aA (eK ok (ac 0 rfl) (a' (bK ok Pm rfl) (bJ ok Se) .nil ((L5 ok).cl rfl)) dP Wq (fun _=>rfl) (fun _=>rfl)) (aA (eK ok (ac 0 rfl) (xC) dP Wr (fun _=>rfl) (fun _=>rfl)) (aA (eK ok (ac 0 rfl) (xC) dP Ws (fun _=>rfl) (fun _=>rfl)) (aA (eK ok (ac 0 rfl) (VQ) dP Wt (fun _=>rfl) (fun _=>rfl)) (aW)))))
noncomputable def Hw:a5:=[("self",lc),("name",lc),("RangeMap",bc)]
theorem Tz:(Hw.map (·.1)).Nodup:=by decide
theorem CS(ok:(ay prog w base ar).Ok):ck (ay prog w base ar) 3 458 oW:=by
 refine cU (nm:=Hw) (np:=2) (k:=2) ok (FnAt.of (by rfl) (by kernel_rfl) rfl rfl rfl rfl (fun _ _ _=>gj fun _ _=>BindsTo.of_eq rfl) Tz (by decide) (by decide)) ?_
 exact(aA (cV (b2 ok (ac 1 rfl) (b1 ok (ac 0 rfl) dP jp (fun _ _=>rfl)) (by with_unfolding_all rfl)) (aA (iK (a' (bK ok EV rfl) (bJ ok Gy) (.ai (de (b1 ok (ac 0 rfl) dP tw (fun _ _=>rfl)) (uE PySem.F.slot_dict_get PySem.F.type_dict_get (uI ok)) (.ai (ac 1 rfl) .nil) (fun _ _=>rfl) (by rfl) (by decide)) .nil) (mv ok Hd Ge KJ ((CV ok).up rfl))) (b1 ok (ac 0 rfl) dP jp (fun _ _=>rfl)) (ac 1 rfl) (fun _=>rfl) (fun _=>rfl)) (aW)) (aW)) (aA (b7 (b' ok (b1 ok (ac 0 rfl) dP jp (fun _ _=>rfl)) (ac 1 rfl) (by intro _ _ _;rfl))) (aW)))
noncomputable def Hy:a5:=[("self",lc),("name",lc),("first",lc),("last",lc),("value",lc)]
theorem TB:(Hy.map (·.1)).Nodup:=by decide
theorem CU(ok:(ay prog w base ar).Ok):ck (ay prog w base ar) 4 444 nT:=by
 refine cU (nm:=Hy) (np:=5) (k:=3) ok (FnAt.of (by rfl) (by kernel_rfl) rfl rfl rfl rfl (fun _ _ _=>MP fun _ _ _ _ _=>BindsTo.of_eq rfl) TB (by decide) (by decide)) ?_
 exact(aA (ft (de (de (ac 0 rfl) (fe ok dP G6 ((CS ok).up rfl)) (.ai (ac 1 rfl) .nil) (fun _ _=>rfl) (by rfl) (by decide)) (fe ok f' S7 ((L3 ok).up rfl)) (.ai (ac 2 rfl) (.ai (ac 3 rfl) (.ai (ac 4 rfl) .nil))) (fun _ _=>rfl) (by rfl) (by decide)) (fun _=>rfl)) (aW))
end
section
variable{prog:Program}{w:World}{base:Heap}{ar:Str→Option Value}
noncomputable def Hv:a5:=[("self",lc),("name",lc),("code",lc)]
theorem Ty:(Hv.map (·.1)).Nodup:=by decide
theorem qR(ok:(ay prog w base ar).Ok):ck (ay prog w base ar) 4 451 hZ:=by
 refine cU (nm:=Hv) (np:=3) (k:=3) ok (FnAt.of (by rfl) (by kernel_rfl) rfl rfl rfl rfl (fun _ _ _=>ko fun _ _ _=>BindsTo.of_eq rfl) Ty (by decide) (by decide)) ?_
 exact(aA (cV (b2 ok (ac 1 rfl) (b1 ok (ac 0 rfl) dP jp (fun _ _=>rfl)) (by with_unfolding_all rfl)) (aA (b7 (de (b' ok (b1 ok (ac 0 rfl) dP jp (fun _ _=>rfl)) (ac 1 rfl) (by intro _ _ _;rfl)) (fe ok f' S6 ((L2 ok).up rfl)) (.ai (ac 2 rfl) .nil) (fun _ _=>rfl) (by rfl) (by decide))) (aW)) (aW)) (aA (b7 (de (b1 ok (ac 0 rfl) dP tw (fun _ _=>rfl)) (uE PySem.F.slot_dict_get PySem.F.type_dict_get (uI ok)) (.ai (ac 1 rfl) .nil) (fun _ _=>rfl) (by rfl) (by decide))) (aW)))
noncomputable def HC:a5:=[("self",lc),("data",lc),("tries",lc)]
theorem TF:(HC.map (·.1)).Nodup:=by decide
theorem L1(ok:(ay prog w base ar).Ok):ck (ay prog w base ar) 1 479 x9:=by
 refine cU (nm:=HC) (np:=3) (k:=0) ok (FnAt.of (by rfl) (by kernel_rfl) rfl rfl rfl rfl (fun _ _ _=>ko fun _ _ _=>BindsTo.of_eq rfl) TF (by decide) (by decide)) ?_
 exact(aA (eK ok (ac 0 rfl) (b1 ok (ac 1 rfl) dP tw (fun _ _=>rfl)) iR Wu (fun _=>rfl) (fun _=>rfl)) (aA (eK ok (ac 0 rfl) (b1 ok (ac 1 rfl) dP jp (fun _ _=>rfl)) iR Wv (fun _=>rfl) (fun _=>rfl)) (aA (eK ok (ac 0 rfl) (b1 ok (ac 1 rfl) dP v3 (fun _ _=>rfl)) iR Ww (fun _=>rfl) (fun _=>rfl)) (aA (eK ok (ac 0 rfl) (b1 ok (ac 1 rfl) dP tx (fun _ _=>rfl)) iR Wy (fun _=>rfl) (fun _=>rfl)) (aA (eK ok (ac 0 rfl) (ac 2 rfl) iR Wx (fun _=>rfl) (fun _=>rfl)) (aW))))))
noncomputable def Hz:a5:=[("self",lc),("name",lc),("code",lc)]
theorem TC:(Hz.map (·.1)).Nodup:=by decide
theorem ys(ok:(ay prog w base ar).Ok):ck (ay prog w base ar) 2 486 jC:=by
 refine cU (nm:=Hz) (np:=3) (k:=1) ok (FnAt.of (by rfl) (by kernel_rfl) rfl rfl rfl rfl (fun _ _ _=>ko fun _ _ _=>BindsTo.of_eq rfl) TC (by decide) (by decide)) ?_
 exact(aA (cV (b2 ok (ac 1 rfl) (b1 ok (ac 0 rfl) iR Er (fun _ _=>rfl)) (by with_unfolding_all rfl)) (aA (b7 (de (b' ok (b1 ok (ac 0 rfl) iR Er (fun _ _=>rfl)) (ac 1 rfl) (by intro _ _ _;rfl)) (fe ok iy S4 ((LX ok).up rfl)) (.ai (ac 2 rfl) .nil) (fun _ _=>rfl) (by rfl) (by decide))) (aW)) (aW)) (aA (b7 (de (b1 ok (ac 0 rfl) iR Eo (fun _ _=>rfl)) (uE PySem.F.slot_dict_get PySem.F.type_dict_get (uI ok)) (.ai (ac 1 rfl) .nil) (fun _ _=>rfl) (by rfl) (by decide))) (aW)))
noncomputable def HB:a5:=[("self",lc),("name",lc),("RangeMap",bc)]
theorem TD:(HB.map (·.1)).Nodup:=by decide
theorem L0(ok:(ay prog w base ar).Ok):ck (ay prog w base ar) 3 493 sx:=by
 refine cU (nm:=HB) (np:=2) (k:=2) ok (FnAt.of (by rfl) (by kernel_rfl) rfl rfl rfl rfl (fun _ _ _=>gj fun _ _=>BindsTo.of_eq rfl) TD (by decide) (by decide)) ?_
 exact(aA (b7 (gJ (b2 ok (ac 1 rfl) (b1 ok (ac 0 rfl) iR Ep (fun _ _=>rfl)) (by with_unfolding_all rfl)) (b' ok (b1 ok (ac 0 rfl) iR Ep (fun _ _=>rfl)) (ac 1 rfl) (by intro _ _ _;rfl)) (a' (bK ok EV rfl) (bJ ok Gy) (.ai (de (b1 ok (ac 0 rfl) iR Eo (fun _ _=>rfl)) (uE PySem.F.slot_dict_get PySem.F.type_dict_get (uI ok)) (.ai (ac 1 rfl) .nil) (fun _ _=>rfl) (by rfl) (by decide)) .nil) (mv ok Hd Ge KJ ((CV ok).up rfl))))) (aW))
noncomputable def HX:a5:=[("data",lc),("low_bits",lc),("mid_bits",lc),("tries",lc),("name",lc),("sorted",bc),("CodeTrie",bc),("FrozenData",bc)]
theorem A5:(HX.map (·.1)).Nodup:=by decide
theorem L6(ok:(ay prog w base ar).Ok):ck (ay prog w base ar) 13 508 sD:=by
 refine cU (nm:=HX) (np:=3) (k:=12) ok (FnAt.of (by rfl) (by kernel_rfl) rfl rfl rfl rfl (by intro _ _ az;refine ko ?_;intro _ _ _;exact BindsTo.of_defaults rfl (az _ _ (ok.K _ _ (by show(hd.heap_1 w.params).lookup _=_;rfl))) rfl rfl rfl) A5 (by decide) (by decide)) ?_
 exact(aA (cA (i:=3) (xC) A5 rfl (.inl rfl) (fun _=>rfl)) (aA (eU (dX (a' (cf ok rfl w6 (by decide+kernel)) (c7 "sorted") (.ai (b1 ok (ac 0 rfl) dP jp (fun _ _=>rfl)) .nil) (xE ok))) (eB (i:=4) A5 rfl (.inl rfl)) (aA (iK (de (bK ok ES rfl) (Vw ok (Vo ok) Sc ((LZ ok).up rfl)) (.ai (b' ok (b1 ok (ac 0 rfl) dP jp (fun _ _=>rfl)) (ac 4 rfl) (by intro _ _ _;rfl)) (.ai (ac 1 rfl) (.ai (ac 2 rfl) .nil))) (fun _ _=>rfl) (by rfl) (by decide)) (ac 3 rfl) (ac 4 rfl) (fun _=>rfl) (fun _=>rfl)) (aW)) (fun _ _=>rfl)) (aA (b7 (a' (bK ok Pj rfl) (bJ ok Sf) (.ai (ac 0 rfl) (.ai (ac 3 rfl) .nil)) (mv ok Tf RL WW ((L1 ok).up rfl)))) (aW))))
noncomputable def H2:a5:=[("data",lc),("other",lc),("found",lc),("one",lc),("name",lc),("first",lc),("last",lc),("value",lc),("key",lc),("pair",lc),("Data",bc),("sorted",bc)]
theorem ui:(H2.map (·.1)).Nodup:=by decide
theorem L8(ok:(ay prog w base ar).Ok):ck (ay prog w base ar) 9 515 sE:=by
 refine cU (nm:=H2) (np:=2) (k:=8) ok (FnAt.of (by rfl) (by kernel_rfl) rfl rfl rfl rfl (fun _ _ _=>gj fun _ _=>BindsTo.of_eq rfl) ui (by decide) (by decide)) ?_
 exact(aA (cA (i:=2) (a' (bK ok ET rfl) (bJ ok GC) .nil (mv ok Hc Gd KI ((CT ok).up rfl))) ui rfl (.inl rfl) (fun _=>rfl)) (aA (eU (dX (d2 (.ai (ac 0 rfl) (.ai (ac 1 rfl) .nil)))) (eB (i:=3) ui rfl (.inl rfl)) (aA (eU (dX (a' (cf ok rfl w6 (by decide+kernel)) (c7 "sorted") (.ai (b1 ok (ac 3 rfl) dP jp (fun _ _=>rfl)) .nil) (xE ok))) (eB (i:=4) ui rfl (.inl rfl)) (aA (eU (dX (de (b' ok (b1 ok (ac 3 rfl) dP jp (fun _ _=>rfl)) (ac 4 rfl) (by intro _ _ _;rfl)) (fe ok f' AQ ((yt ok).up rfl)) .nil (fun _ _=>rfl) (by rfl) (by decide))) (jZ ui (.cons (i:=5) rfl (.inl rfl) (.cons (i:=6) rfl (.inl rfl) (.cons (i:=7) rfl (.inl rfl) .nil)))) (aA (ft (de (ac 2 rfl) (fe ok dP G7 ((CU ok).up rfl)) (.ai (ac 4 rfl) (.ai (ac 5 rfl) (.ai (ac 6 rfl) (.ai (ac 7 rfl) .nil)))) (fun _ _=>rfl) (by rfl) (by decide)) (fun _=>rfl)) (aW)) (fun _ _=>rfl)) (aW)) (fun _ _=>rfl)) (aA (J0 ok (b1 ok (ac 3 rfl) dP v3 (fun _ _=>rfl)) (fun _ _=>rfl)) (aA (J0 ok (b1 ok (ac 3 rfl) dP tx (fun _ _=>rfl)) (fun _ _=>rfl)) (aW)))) (fun _ _=>rfl)) (aA (b7 (ac 2 rfl)) (aW))))
noncomputable def H5:a5:=[("word",lc),("kept",lc),("sign",lc),("chr",bc),("ord",bc)]
theorem A8:(H5.map (·.1)).Nodup:=by decide
theorem mV(ok:(ay prog w base ar).Ok):ck (ay prog w base ar) 2 522 k4:=by
 refine cU (nm:=H5) (np:=1) (k:=1) ok (FnAt.of (by rfl) (by kernel_rfl) rfl rfl rfl rfl (fun _ _ _=>ix fun _=>BindsTo.of_eq rfl) A8 (by decide) (by decide)) ?_
 exact(aA (cA (i:=1) (dQ .nil) A8 rfl (.inl rfl) (fun _=>rfl)) (aA (eU (dX (ac 0 rfl)) (eB (i:=2) A8 rfl (.inl rfl)) (aA (cV (b2 ok (ac 2 rfl) (a8) (by with_unfolding_all rfl)) (aA (ft (de (ac 1 rfl) (kS PySem.F.slot_list_append mD mu) (.ai (gJ (BK ok (a8) (ac 2 rfl) (a8) (by with_unfolding_all rfl)) (a' (cf ok rfl Tt (by decide+kernel)) (c7 "chr") (.ai (cw (a' (cf ok rfl Hl (by decide+kernel)) (c7 "ord") (.ai (ac 2 rfl) .nil) J4) (bn)) .nil) VD) (ac 2 rfl)) .nil) (fun _ _=>rfl) (by rfl) (by decide)) (fun _=>rfl)) (aW)) (aW)) (aW)) (fun _ _=>rfl)) (aA (b7 (de (a8) (xz PySem.F.slot_str_join KM J3) (.ai (ac 1 rfl) .nil) (fun _ _=>rfl) (by rfl) (by decide))) (aW))))
noncomputable def HV:a5:=[("known",lc),("word",lc),("loose",lc),("data_loose",bc)]
theorem HW:(HV.map (·.1)).Nodup:=by decide
theorem yv(ok:(ay prog w base ar).Ok):ck (ay prog w base ar) 3 529 sC:=by
 refine cU (nm:=HV) (np:=2) (k:=2) ok (FnAt.of (by rfl) (by kernel_rfl) rfl rfl rfl rfl (fun _ _ _=>gj fun _ _=>BindsTo.of_eq rfl) HW (by decide) (by decide)) ?_
 exact(aA (cA (i:=2) (a' (bK ok m7 rfl) (bJ ok nk) (.ai (ac 1 rfl) .nil) ((mV ok).cl rfl)) HW rfl (.inl rfl) (fun _=>rfl)) (aA (cV (b2 ok (ac 2 rfl) (ac 0 rfl) (by with_unfolding_all rfl)) (aA (b7 (b' ok (ac 0 rfl) (ac 2 rfl) (by intro _ _ _;rfl))) (aW)) (aW)) (aA (cV (iI (.cons (b2 ok (i8 ok (ac 2 rfl) .none (.some (bn)) .none) (a8) (by with_unfolding_all rfl)) (.cons (b2 ok (i8 ok (ac 2 rfl) (.some (bn)) .none .none) (ac 0 rfl) (by with_unfolding_all rfl)) .nil))) (aA (b7 (b' ok (ac 0 rfl) (i8 ok (ac 2 rfl) (.some (bn)) .none .none) (by intro _ _ _;rfl))) (aW)) (aW)) (aA (b7 (eF)) (aW)))))
end
section
variable{prog:Program}{w:World}{base:Heap}{ar:Str→Option Value}
noncomputable def H4:a5:=[]
theorem TN:(H4.map (·.1)).Nodup:=by decide
theorem L9(ok:(ay prog w base ar).Ok):ck (ay prog w base ar) 1 536 yb:=by
 refine cU (nm:=H4) (np:=0) (k:=0) ok (FnAt.of (by rfl) (by kernel_rfl) rfl rfl rfl rfl (by intro s vals az au;obtain rfl:=len0 au;refine BindsTo.of_eq ?_;unfold bindArgs;rfl) TN (by decide) (by decide)) ?_
 exact(@aA _ _ _ _ _ _ _ (@b7 _ _ _ _ _ _ (@VI _ _ _ ok _ _ _ oD (.cons (.cons (.cons (.cons (.cons (.cons (.cons (.cons (.cons (.cons (.cons (.cons (.cons (.cons (.cons (.cons (.cons (.cons (.cons (.cons (.cons (.cons (.cons (.cons (.cons (.cons (.cons (.cons (.cons (.cons (.cons (.cons (.cons (.cons (.cons (.cons (.cons (.cons (.cons (.cons (.cons (.cons (.cons (.cons (.cons (.cons (.cons (.cons (.cons (.cons (.cons (.cons (.cons (.cons (.cons (.cons (.cons (.cons (.cons (.cons (.cons (.cons (.cons (.cons (.cons (.cons (.cons (.cons (.cons (.cons (.cons (.cons (.cons (.cons (.cons .nil))))))))))))))))))))))))))))))))))))))))))))))))))))))))))))))))))))))))))) (by decide))) (@aW _ _ _))
noncomputable def H9:a5:=[("data",lc),("name",lc),("words",lc),("word",lc),("data_loose",bc)]
theorem H_:(H9.map (·.1)).Nodup:=by decide
theorem C3(ok:(ay prog w base ar).Ok):ck (ay prog w base ar) 4 555 nV:=by
 refine cU (nm:=H9) (np:=3) (k:=3) ok (FnAt.of (by rfl) (by kernel_rfl) rfl rfl rfl rfl (fun _ _ _=>ko fun _ _ _=>BindsTo.of_eq rfl) H_ (by decide) (by decide)) ?_
 exact(aA (eU (dX (ac 2 rfl)) (eB (i:=3) H_ rfl (.inl rfl)) (aA (iK (ac 1 rfl) (b1 ok (ac 0 rfl) dP v3 (fun _ _=>rfl)) (a' (bK ok m7 rfl) (bJ ok nk) (.ai (ac 3 rfl) .nil) ((mV ok).cl rfl)) (fun _=>rfl) (fun _=>rfl)) (aW)) (fun _ _=>rfl)) (aW))
noncomputable def Ia:a5:=[("data",lc),("name",lc),("value",lc),("words",lc),("word",lc),("data_loose",bc)]
theorem Ib:(Ia.map (·.1)).Nodup:=by decide
theorem C4(ok:(ay prog w base ar).Ok):ck (ay prog w base ar) 4 562 nW:=by
 refine cU (nm:=Ia) (np:=4) (k:=3) ok (FnAt.of (by rfl) (by kernel_rfl) rfl rfl rfl rfl (fun _ _ _=>q3 fun _ _ _ _=>BindsTo.of_eq rfl) Ib (by decide) (by decide)) ?_
 exact(aA (eU (dX (ac 3 rfl)) (eB (i:=4) Ib rfl (.inl rfl)) (aA (iK (ac 2 rfl) (b1 ok (ac 0 rfl) dP tx (fun _ _=>rfl)) (d2 (.ai (ac 1 rfl) (.ai (a' (bK ok m7 rfl) (bJ ok nk) (.ai (ac 4 rfl) .nil) ((mV ok).cl rfl)) .nil))) (fun _=>rfl) (fun _=>rfl)) (aW)) (fun _ _=>rfl)) (aW))
noncomputable def H8:a5:=[("data",lc),("word",lc),("found",lc),("data_found",bc),("data_known_properties",bc)]
theorem Ba:(H8.map (·.1)).Nodup:=by decide
theorem sR(ok:(ay prog w base ar).Ok):ck (ay prog w base ar) 4 569 jd:=by
 refine cU (nm:=H8) (np:=2) (k:=3) ok (FnAt.of (by rfl) (by kernel_rfl) rfl rfl rfl rfl (fun _ _ _=>gj fun _ _=>BindsTo.of_eq rfl) Ba (by decide) (by decide)) ?_
 exact(aA (cA (i:=2) (a' (bK ok zC rfl) (bJ ok AB) (.ai (b1 ok (ac 0 rfl) dP v3 (fun _ _=>rfl)) (.ai (ac 1 rfl) .nil)) ((yv ok).cl rfl)) Ba rfl (.inl rfl) (fun _=>rfl)) (aA (cV (b2 ok (ac 2 rfl) (eF) (by with_unfolding_all rfl)) (aA (cA (i:=2) (a' (bK ok zC rfl) (bJ ok AB) (.ai (a' (bK ok Pq rfl) (bJ ok Sj) .nil ((L9 ok).cl rfl)) (.ai (ac 1 rfl) .nil)) ((yv ok).cl rfl)) Ba rfl (.inl rfl) (fun _=>rfl)) (aW)) (aW)) (aA (cV (b2 ok (ac 2 rfl) (eF) (by with_unfolding_all rfl)) (aA (b7 (ac 2 rfl)) (aW)) (aW)) (aA (b7 (gJ (uJ (.cons (b2 ok (ac 1 rfl) (b1 ok (ac 0 rfl) dP tw (fun _ _=>rfl)) (by with_unfolding_all rfl)) (.cons (b2 ok (ac 1 rfl) (b1 ok (ac 0 rfl) dP jp (fun _ _=>rfl)) (by with_unfolding_all rfl)) .nil))) (ac 1 rfl) (eF))) (aW)))))
noncomputable def Ig:a5:=[("data",lc),("name",lc),("word",lc),("loose",lc),("key",lc),("data_loose",bc),("data_found",bc),("data_known_categories",bc)]
theorem Bb:(Ig.map (·.1)).Nodup:=by decide
theorem qS(ok:(ay prog w base ar).Ok):ck (ay prog w base ar) 4 576 jD:=by
 refine cU (nm:=Ig) (np:=3) (k:=3) ok (FnAt.of (by rfl) (by kernel_rfl) rfl rfl rfl rfl (fun _ _ _=>ko fun _ _ _=>BindsTo.of_eq rfl) Bb (by decide) (by decide)) ?_
 exact(aA (cA (i:=3) (a' (bK ok m7 rfl) (bJ ok nk) (.ai (ac 2 rfl) .nil) ((mV ok).cl rfl)) Bb rfl (.inl rfl) (fun _=>rfl)) (aA (eU (dX (d2 (.ai (ac 3 rfl) (.ai (gJ (b2 ok (i8 ok (ac 3 rfl) .none (.some (bn)) .none) (a8) (by with_unfolding_all rfl)) (i8 ok (ac 3 rfl) (.some (bn)) .none .none) (ac 3 rfl)) .nil)))) (eB (i:=4) Bb rfl (.inl rfl)) (aA (cV (J1 (neg:=false) ok (d2 (.ai (ac 1 rfl) (.ai (ac 4 rfl) .nil))) (b1 ok (ac 0 rfl) dP tx (fun _ _=>rfl)) (by with_unfolding_all rfl)) (aA (b7 (J8 (b1 ok (ac 0 rfl) dP tx (fun _ _=>rfl)) (d2 (.ai (ac 1 rfl) (.ai (ac 4 rfl) .nil))) (fun _ _=>rfl))) (aW)) (aW)) (aW)) (fun _ _=>rfl)) (aA (b7 (gJ (b2 ok (ac 1 rfl) (a8) (by with_unfolding_all rfl)) (a' (bK ok zC rfl) (bJ ok AB) (.ai (qo) (.ai (ac 2 rfl) .nil)) ((yv ok).cl rfl)) (eF))) (aW))))
noncomputable def IW:a5:=[("octets",lc),("number",lc),("octet",lc),("len",bc)]
theorem xf:(IW.map (·.1)).Nodup:=by decide
theorem Mk(ok:(ay prog w base ar).Ok):ck (ay prog w base ar) 2 82 sI:=by
 refine cU (nm:=IW) (np:=1) (k:=1) ok (FnAt.of (by rfl) (by kernel_rfl) rfl rfl rfl rfl (fun _ _ _=>ix fun _=>BindsTo.of_eq rfl) xf (by decide) (by decide)) ?_
 exact(aA (cV (b2 ok (a' (cf ok rfl kM (by decide+kernel)) (c7 "len") (.ai (ac 0 rfl) .nil) kT) (bn) (by with_unfolding_all rfl)) (aA (b7 (eF)) (aW)) (aW)) (aA (cA (i:=1) (bn) xf rfl (.inl rfl) (fun _=>rfl)) (aA (eU (dX (ac 0 rfl)) (eB (i:=2) xf rfl (.inl rfl)) (aA (cV (BR (BK ok (bn) (ac 2 rfl) (bn) (by with_unfolding_all rfl))) (aA (b7 (eF)) (aW)) (aW)) (aA (cA (i:=1) (cw (cw (cw (bn) (ac 1 rfl)) (ac 2 rfl)) (bn)) xf rfl (.inl rfl) (fun _=>rfl)) (aW))) (fun _ _=>rfl)) (aA (b7 (ac 1 rfl)) (aW)))))
noncomputable def A9:a5:=[("word",lc),("signs",lc),("is_less",lc),("parts",lc),("len",bc)]
theorem w_:(A9.map (·.1)).Nodup:=by decide
noncomputable def A_:a5:=[(".0",lc),("part",lc),("whole_of",bc)]
theorem A':(A_.map (·.1)).Nodup:=by decide
theorem TP:hY A9 A_ []:=iS (by decide)
noncomputable def H6:a5:=[(".0",lc),("sign",lc),("ord",bc)]
theorem H7:(H6.map (·.1)).Nodup:=by decide
theorem TO:hY A_ H6 []:=iS (by decide)
theorem C2(ok:(ay prog w base ar).Ok):ck (ay prog w base ar) 4 601 u8:=by
 refine cU (nm:=A9) (np:=1) (k:=3) ok (FnAt.of (by rfl) (by kernel_rfl) rfl rfl rfl rfl (fun _ _ _=>ix fun _=>BindsTo.of_eq rfl) w_ (by decide) (by decide)) ?_
 exact(aA (cA (i:=1) (de (ac 0 rfl) (xz PySem.F.slot_str_strip W0 VZ) (.ai (a8) .nil) (fun _ _=>rfl) (by rfl) (by decide)) w_ rfl (.inl rfl) (fun _=>rfl)) (aA (cA (i:=2) (hO ok (i8 ok (ac 1 rfl) .none (.some (bn)) .none) (a8) (by with_unfolding_all rfl)) w_ rfl (.inl rfl) (fun _=>rfl)) (aA (J5 (i:=3) ⟨rfl,rfl,w_,A',by decide,TP⟩ (dX (de (i8 ok (ac 1 rfl) (.some (gJ (hv (ac 2 rfl) (fun _ _=>rfl)) (bn) (bn))) .none .none) (xz PySem.F.slot_str_split WZ VY) (.ai (a8) .nil) (fun _ _=>rfl) (by rfl) (by decide))) (eB (i:=1) A' rfl (.inl rfl)) (oN) (a' (bK ok PE rfl) (bJ ok Sv) (.ai (jY ⟨rfl,rfl,A',H7,by decide,TO⟩ (dX (ac 1 rfl)) (eB (i:=1) H7 rfl (.inl rfl)) (oN) (a' (cf ok rfl Hl (by decide+kernel)) (c7 "ord") (.ai (ac 1 rfl) .nil) J4) (fun _ _=>rfl)) .nil) ((Mk ok).cl rfl)) rfl rfl (by decide) (fun _ _=>rfl)) (aA (cV (uJ (.cons (b2 ok (a' (cf ok rfl kM (by decide+kernel)) (c7 "len") (.ai (ac 3 rfl) .nil) kT) (bn) (by with_unfolding_all rfl)) (.cons (b2 ok (eF) (ac 3 rfl) (by with_unfolding_all rfl)) (.cons (iI (.cons (b2 ok (a' (cf ok rfl kM (by decide+kernel)) (c7 "len") (.ai (ac 3 rfl) .nil) kT) (bn) (by with_unfolding_all rfl)) (.cons (b2 ok (b' ok (ac 3 rfl) (bn) (by intro _ _ _;rfl)) (bn) (by with_unfolding_all rfl)) .nil))) .nil)))) (aA (b7 (eF)) (aW)) (aW)) (aA (b7 (d2 (.ai (gJ (hv (ac 2 rfl) (fun _ _=>rfl)) (cw (bn) (b' ok (ac 3 rfl) (bn) (by intro _ _ _;rfl))) (b' ok (ac 3 rfl) (bn) (by intro _ _ _;rfl))) (.ai (gJ (b2 ok (a' (cf ok rfl kM (by decide+kernel)) (c7 "len") (.ai (ac 3 rfl) .nil) kT) (bn) (by with_unfolding_all rfl)) (b' ok (ac 3 rfl) (bn) (by intro _ _ _;rfl)) (bn)) .nil)))) (aW))))))
noncomputable def HY:a5:=[("value",lc),("word",lc),("over",lc),("under",lc),("told",lc),("isinstance",bc),("int",bc),("data_number",bc)]
theorem A6:(HY.map (·.1)).Nodup:=by decide
theorem L7(ok:(ay prog w base ar).Ok):ck (ay prog w base ar) 5 608 ya:=by
 refine cU (nm:=HY) (np:=2) (k:=4) ok (FnAt.of (by rfl) (by kernel_rfl) rfl rfl rfl rfl (fun _ _ _=>gj fun _ _=>BindsTo.of_eq rfl) A6 (by decide) (by decide)) ?_
 exact(aA (xG A6 (gJ (hv (a' (cf ok rfl iF (by decide+kernel)) (c7 "isinstance") (.ai (ac 0 rfl) (.ai (cf ok rfl ue (by decide+kernel)) .nil)) iJ) (fun _ _=>rfl)) (d2 (.ai (ac 0 rfl) (.ai (bn) .nil))) (ac 0 rfl)) (.cons (i:=2) rfl (.inl rfl) (.cons (i:=3) rfl (.inl rfl) .nil)) (fun _=>rfl) (fun _=>rfl)) (aA (cA (i:=4) (a' (bK ok E0 rfl) (bJ ok GF) (.ai (ac 1 rfl) .nil) ((C2 ok).cl rfl)) A6 rfl (.inl rfl) (fun _=>rfl)) (aA (b7 (xA (.cons (hO ok (ac 4 rfl) (eF) (by with_unfolding_all rfl)) (.cons (hO ok (cw (b' ok (ac 4 rfl) (bn) (by intro _ _ _;rfl)) (ac 3 rfl)) (cw (ac 2 rfl) (b' ok (ac 4 rfl) (bn) (by intro _ _ _;rfl))) (by with_unfolding_all rfl)) .nil)))) (aW))))
end
section
variable{prog:Program}{w:World}{base:Heap}{ar:Str→Option Value}
noncomputable def Ii:a5:=[("value",lc),("name",lc),("isinstance",bc),("bool",bc),("str",bc),("int",bc),("data_is_pair",bc),("tuple",bc),("len",bc),("all",bc)]
theorem TS:(Ii.map (·.1)).Nodup:=by decide
theorem Mb(ok:(ay prog w base ar).Ok):ck (ay prog w base ar) 1 589 yd:=by
 refine cU (nm:=Ii) (np:=2) (k:=0) ok (FnAt.of (by rfl) (by kernel_rfl) rfl rfl rfl rfl (by intro _ _ az;refine gj ?_;intro _ _;exact BindsTo.of_defaults rfl (az _ _ (ok.K _ _ (by show(hd.heap_1 w.params).lookup _=_;rfl))) rfl rfl rfl) TS (by decide) (by decide)) ?_
 exact(aA (cV (hv (a' (cf ok rfl iF (by decide+kernel)) (c7 "isinstance") (.ai (ac 0 rfl) (.ai (cf ok rfl rU (by decide+kernel)) .nil)) iJ) (fun _ _=>rfl)) (aA (b7 (gJ (hv (ac 0 rfl) (fun _ _=>rfl)) (a8) (a8))) (aW)) (aW)) (aA (cV (b2 ok (ac 0 rfl) (eF) (by with_unfolding_all rfl)) (aA (b7 (a8)) (aW)) (aW)) (aA (cV (hv (a' (cf ok rfl iF (by decide+kernel)) (c7 "isinstance") (.ai (ac 0 rfl) (.ai (cf ok rfl w7 (by decide+kernel)) .nil)) iJ) (fun _ _=>rfl)) (aA (b7 (ac 0 rfl)) (aW)) (aW)) (aA (cV (hv (a' (cf ok rfl iF (by decide+kernel)) (c7 "isinstance") (.ai (ac 0 rfl) (.ai (cf ok rfl ue (by decide+kernel)) .nil)) iJ) (fun _ _=>rfl)) (aA (b7 (qo)) (aW)) (aW)) (aA (cV (BN) (aA (cV (b2 ok (ac 1 rfl) (a8) (by with_unfolding_all rfl)) (aA (b7 (eF)) (aW)) (aW)) (aA (b7 (gJ (b2 ok (b' ok (ac 0 rfl) (bn) (by intro _ _ _;rfl)) (bn) (by with_unfolding_all rfl)) (qo) (qo))) (aW))) (aW)) (aA (cV (iI (.cons (hv (a' (cf ok rfl iF (by decide+kernel)) (c7 "isinstance") (.ai (ac 0 rfl) (.ai (cf ok rfl rV (by decide+kernel)) .nil)) iJ) (fun _ _=>rfl)) (.cons (b2 ok (a' (cf ok rfl kM (by decide+kernel)) (c7 "len") (.ai (ac 0 rfl) .nil) kT) (bn) (by with_unfolding_all rfl)) (.cons (hv (a' (cf ok rfl iF (by decide+kernel)) (c7 "isinstance") (.ai (b' ok (ac 0 rfl) (bn) (by intro _ _ _;rfl)) (.ai (cf ok rfl w7 (by decide+kernel)) .nil)) iJ) (fun _ _=>rfl)) .nil)))) (aA (b7 (gJ (BN) (de (a8) (xz PySem.F.slot_str_join KM J3) (.ai (ac 0 rfl) .nil) (fun _ _=>rfl) (by rfl) (by decide)) (eF))) (aW)) (aW)) (aA (b7 (eF)) (aW))))))))
noncomputable def Id:a5:=[("word",lc),("loose",lc),("data_loose",bc)]
theorem Ie:(Id.map (·.1)).Nodup:=by decide
theorem L'(ok:(ay prog w base ar).Ok):ck (ay prog w base ar) 3 596 CA:=by
 refine cU (nm:=Id) (np:=1) (k:=2) ok (FnAt.of (by rfl) (by kernel_rfl) rfl rfl rfl rfl (fun _ _ _=>ix fun _=>BindsTo.of_eq rfl) Ie (by decide) (by decide)) ?_
 exact(aA (cA (i:=1) (a' (bK ok m7 rfl) (bJ ok nk) (.ai (ac 0 rfl) .nil) ((mV ok).cl rfl)) Ie rfl (.inl rfl) (fun _=>rfl)) (aA (cV (b2 ok (ac 1 rfl) (d2 (.ai (a8) (.ai (a8) (.ai (a8) (.ai (a8) .nil))))) (by with_unfolding_all rfl)) (aA (b7 (ii)) (aW)) (aW)) (aA (b7 (gJ (b2 ok (ac 1 rfl) (d2 (.ai (a8) (.ai (a8) (.ai (a8) (.ai (a8) .nil))))) (by with_unfolding_all rfl)) (ii) (eF))) (aW))))
noncomputable def A7:a5:=[("data",lc),("name",lc),("value",lc),("word",lc),("short",lc),("due",lc),("told",lc),("isinstance",bc),("bool",bc),("data_truth_of",bc),("data_value",bc),("data_category_group",bc),("int",bc),("data_is_pair",bc),("data_is_number",bc),("data_number",bc),("data_loose",bc),("tuple",bc),("data_value_text",bc)]
theorem r0:(A7.map (·.1)).Nodup:=by decide
noncomputable def HZ:a5:=[(".0",lc),("script",lc),("data_loose",bc)]
theorem H0:(HZ.map (·.1)).Nodup:=by decide
theorem TM:hY A7 HZ []:=iS (by decide)
theorem C1(ok:(ay prog w base ar).Ok):ck (ay prog w base ar) 6 613 qK:=by
 refine cU (nm:=A7) (np:=4) (k:=5) ok (FnAt.of (by rfl) (by kernel_rfl) rfl rfl rfl rfl (fun _ _ _=>q3 fun _ _ _ _=>BindsTo.of_eq rfl) r0 (by decide) (by decide)) ?_
 exact(aA (cV (hv (a' (cf ok rfl iF (by decide+kernel)) (c7 "isinstance") (.ai (ac 2 rfl) (.ai (cf ok rfl rU (by decide+kernel)) .nil)) iJ) (fun _ _=>rfl)) (aA (b7 (hO ok (a' (bK ok Ps rfl) (bJ ok Sl) (.ai (ac 3 rfl) .nil) ((L' ok).cl rfl)) (ac 2 rfl) (by with_unfolding_all rfl))) (aW)) (aW)) (aA (cV (iI (.cons (b2 ok (ac 1 rfl) (a8) (by with_unfolding_all rfl)) (.cons (b2 ok (ac 2 rfl) (eF) (by with_unfolding_all rfl)) .nil))) (aA (b7 (ii)) (aW)) (aW)) (aA (cA (i:=4) (a' (bK ok rn rfl) (bJ ok rH) (.ai (ac 0 rfl) (.ai (ac 1 rfl) (.ai (ac 3 rfl) .nil))) ((qS ok).cl rfl)) r0 rfl (.inl rfl) (fun _=>rfl)) (aA (cV (iI (.cons (b2 ok (ac 1 rfl) (a8) (by with_unfolding_all rfl)) (.cons (b2 ok (ac 4 rfl) (eF) (by with_unfolding_all rfl)) .nil))) (aA (b7 (qo)) (aW)) (aW)) (aA (cV (uJ (.cons (hv (a' (cf ok rfl iF (by decide+kernel)) (c7 "isinstance") (.ai (ac 2 rfl) (.ai (cf ok rfl ue (by decide+kernel)) .nil)) iJ) (fun _ _=>rfl)) (.cons (iI (.cons (b2 ok (ac 1 rfl) (a8) (by with_unfolding_all rfl)) (.cons (BN) .nil))) .nil))) (aA (b7 (a' (bK ok Po rfl) (bJ ok Sm) (.ai (ac 2 rfl) (.ai (gJ (uJ (.cons (b2 ok (ac 4 rfl) (eF) (by with_unfolding_all rfl)) (.cons (b2 ok (a' (bK ok E0 rfl) (bJ ok GF) (.ai (ac 3 rfl) .nil) ((C2 ok).cl rfl)) (eF) (by with_unfolding_all rfl)) .nil))) (ac 3 rfl) (ac 4 rfl)) .nil)) ((L7 ok).cl rfl))) (aW)) (aW)) (aA (cA (i:=5) (a' (bK ok m7 rfl) (bJ ok nk) (.ai (gJ (b2 ok (ac 4 rfl) (eF) (by with_unfolding_all rfl)) (ac 3 rfl) (ac 4 rfl)) .nil) ((mV ok).cl rfl)) r0 rfl (.inl rfl) (fun _=>rfl)) (aA (cV (iI (.cons (b2 ok (ac 1 rfl) (a8) (by with_unfolding_all rfl)) (.cons (hv (a' (cf ok rfl iF (by decide+kernel)) (c7 "isinstance") (.ai (ac 2 rfl) (.ai (cf ok rfl rV (by decide+kernel)) .nil)) iJ) (fun _ _=>rfl)) .nil))) (aA (b7 (hO ok (ac 5 rfl) (jY ⟨rfl,rfl,r0,H0,by decide,TM⟩ (dX (ac 2 rfl)) (eB (i:=1) H0 rfl (.inl rfl)) (oN) (a' (bK ok m7 rfl) (bJ ok nk) (.ai (ac 1 rfl) .nil) ((mV ok).cl rfl)) (fun _ _=>rfl)) (by with_unfolding_all rfl))) (aW)) (aW)) (aA (cV (b2 ok (ac 1 rfl) (a8) (by with_unfolding_all rfl)) (aA (cA (i:=6) (gJ (b2 ok (ac 2 rfl) (eF) (by with_unfolding_all rfl)) (a8) (b' ok (ac 2 rfl) (bn) (by intro _ _ _;rfl))) r0 rfl (.inl rfl) (fun _=>rfl)) (aA (b7 (hO ok (ac 5 rfl) (gJ (b2 ok (ac 6 rfl) (a8) (by with_unfolding_all rfl)) (a8) (a' (bK ok m7 rfl) (bJ ok nk) (.ai (ac 6 rfl) .nil) ((mV ok).cl rfl))) (by with_unfolding_all rfl))) (aW))) (aW)) (aA (cA (i:=6) (a' (bK ok Pu rfl) (bJ ok Sk) (.ai (ac 2 rfl) (.ai (ac 1 rfl) .nil)) ((Mb ok).cl rfl)) r0 rfl (.inl rfl) (fun _=>rfl)) (aA (b7 (xA (.cons (hO ok (ac 6 rfl) (eF) (by with_unfolding_all rfl)) (.cons (hO ok (a' (bK ok m7 rfl) (bJ ok nk) (.ai (ac 6 rfl) .nil) ((mV ok).cl rfl)) (ac 5 rfl) (by with_unfolding_all rfl)) .nil)))) (aW)))))))))))
noncomputable def IU:a5:=[("data",lc),("name",lc),("code",lc),("word",lc),("value",lc),("data_is_value",bc)]
theorem IV:(IU.map (·.1)).Nodup:=by decide
theorem C9(ok:(ay prog w base ar).Ok):ck (ay prog w base ar) 7 620 o3:=by
 refine cU (nm:=IU) (np:=4) (k:=6) ok (FnAt.of (by rfl) (by kernel_rfl) rfl rfl rfl rfl (fun _ _ _=>q3 fun _ _ _ _=>BindsTo.of_eq rfl) IV (by decide) (by decide)) ?_
 exact(aA (cA (i:=4) (de (ac 0 rfl) (fe ok dP rQ ((qR ok).up rfl)) (.ai (ac 1 rfl) (.ai (ac 2 rfl) .nil)) (fun _ _=>rfl) (by rfl) (by decide)) IV rfl (.inl rfl) (fun _=>rfl)) (aA (cV (iI (.cons (b2 ok (ac 1 rfl) (a8) (by with_unfolding_all rfl)) (.cons (b2 ok (ac 4 rfl) (eF) (by with_unfolding_all rfl)) .nil))) (aA (b7 (a' (bK ok EZ rfl) (bJ ok GG) (.ai (ac 0 rfl) (.ai (a8) (.ai (de (ac 0 rfl) (fe ok dP rQ ((qR ok).up rfl)) (.ai (a8) (.ai (ac 2 rfl) .nil)) (fun _ _=>rfl) (by rfl) (by decide)) (.ai (ac 3 rfl) .nil)))) ((C1 ok).cl rfl))) (aW)) (aW)) (aA (b7 (a' (bK ok EZ rfl) (bJ ok GG) (.ai (ac 0 rfl) (.ai (ac 1 rfl) (.ai (ac 4 rfl) (.ai (ac 3 rfl) .nil)))) ((C1 ok).cl rfl))) (aW))))
noncomputable def Ic:a5:=[("data",lc),("name",lc)]
theorem TQ:(Ic.map (·.1)).Nodup:=by decide
theorem L_(ok:(ay prog w base ar).Ok):ck (ay prog w base ar) 6 627 yc:=by
 refine cU (nm:=Ic) (np:=2) (k:=5) ok (FnAt.of (by rfl) (by kernel_rfl) rfl rfl rfl rfl (fun _ _ _=>gj fun _ _=>BindsTo.of_eq rfl) TQ (by decide) (by decide)) ?_
 exact(aA (b7 (gJ (b2 ok (ac 1 rfl) (b1 ok (ac 0 rfl) dP jp (fun _ _=>rfl)) (by with_unfolding_all rfl)) (de (b' ok (b1 ok (ac 0 rfl) dP jp (fun _ _=>rfl)) (ac 1 rfl) (by intro _ _ _;rfl)) (fe ok f' AQ ((yt ok).up rfl)) .nil (fun _ _=>rfl) (by rfl) (by decide)) (dQ .nil))) (aW))
noncomputable def Ih:a5:=[("name",lc),("default",lc),("value",lc),("data_known_categories",bc),("len",bc),("isinstance",bc),("int",bc),("bool",bc),("str",bc),("data_mapping_fault",bc)]
theorem TR:(Ih.map (·.1)).Nodup:=by decide
theorem Ma(ok:(ay prog w base ar).Ok):ck (ay prog w base ar) 1 646 oY:=by
 refine cU (nm:=Ih) (np:=3) (k:=0) ok (FnAt.of (by rfl) (by kernel_rfl) rfl rfl rfl rfl (fun _ _ _=>ko fun _ _ _=>BindsTo.of_eq rfl) TR (by decide) (by decide)) ?_
 exact(aA (cV (b2 ok (ac 0 rfl) (a8) (by with_unfolding_all rfl)) (aA (b7 (BS (.cons (qo) (.cons (hO ok (a' (cf ok rfl kM (by decide+kernel)) (c7 "len") (.ai (ac 2 rfl) .nil) kT) (bn) (by with_unfolding_all rfl)) (.cons (hO ok (ac 2 rfl) (a8) (by with_unfolding_all rfl)) .nil))))) (aW)) (aW)) (aA (cV (b2 ok (ac 0 rfl) (a8) (by with_unfolding_all rfl)) (aA (b7 (BS (.cons (xD (a' (cf ok rfl iF (by decide+kernel)) (c7 "isinstance") (.ai (ac 2 rfl) (.ai (cf ok rfl ue (by decide+kernel)) .nil)) iJ)) (.cons (xD (VE ok (bn) (ac 2 rfl) (bn) (by with_unfolding_all rfl))) .nil)))) (aW)) (aW)) (aA (cV (hv (a' (cf ok rfl iF (by decide+kernel)) (c7 "isinstance") (.ai (ac 1 rfl) (.ai (cf ok rfl rU (by decide+kernel)) .nil)) iJ) (fun _ _=>rfl)) (aA (b7 (xD (a' (cf ok rfl iF (by decide+kernel)) (c7 "isinstance") (.ai (ac 2 rfl) (.ai (cf ok rfl rU (by decide+kernel)) .nil)) iJ))) (aW)) (aW)) (aA (cV (hv (a' (cf ok rfl iF (by decide+kernel)) (c7 "isinstance") (.ai (ac 1 rfl) (.ai (cf ok rfl w7 (by decide+kernel)) .nil)) iJ) (fun _ _=>rfl)) (aA (b7 (BS (.cons (xD (a' (cf ok rfl iF (by decide+kernel)) (c7 "isinstance") (.ai (ac 2 rfl) (.ai (cf ok rfl w7 (by decide+kernel)) .nil)) iJ)) (.cons (hO ok (ac 2 rfl) (a8) (by with_unfolding_all rfl)) .nil)))) (aW)) (aW)) (aA (b7 (xA (.cons (hO ok (ac 2 rfl) (eF) (by with_unfolding_all rfl)) (.cons (qo) .nil)))) (aW))))))
noncomputable def HU:a5:=[("data",lc),("found",lc),("name",lc),("default",lc),("first",lc),("last",lc),("value",lc),("sorted",bc),("data_ranges",bc),("data_value_fault",bc)]
theorem uh:(HU.map (·.1)).Nodup:=by decide
theorem C0(ok:(ay prog w base ar).Ok):ck (ay prog w base ar) 9 653 qJ:=by
 refine cU (nm:=HU) (np:=1) (k:=8) ok (FnAt.of (by rfl) (by kernel_rfl) rfl rfl rfl rfl (fun _ _ _=>ix fun _=>BindsTo.of_eq rfl) uh (by decide) (by decide)) ?_
 exact(aA (cA (i:=1) (dQ .nil) uh rfl (.inl rfl) (fun _=>rfl)) (aA (eU (dX (a' (cf ok rfl w6 (by decide+kernel)) (c7 "sorted") (.ai (b1 ok (ac 0 rfl) dP jp (fun _ _=>rfl)) .nil) (xE ok))) (eB (i:=2) uh rfl (.inl rfl)) (aA (cA (i:=3) (de (b1 ok (ac 0 rfl) dP tw (fun _ _=>rfl)) (uE PySem.F.slot_dict_get PySem.F.type_dict_get (uI ok)) (.ai (ac 2 rfl) .nil) (fun _ _=>rfl) (by rfl) (by decide)) uh rfl (.inl rfl) (fun _=>rfl)) (aA (eU (dX (a' (bK ok Pr rfl) (bJ ok Sn) (.ai (ac 0 rfl) (.ai (ac 2 rfl) .nil)) ((L_ ok).cl rfl))) (jZ uh (.cons (i:=4) rfl (.inl rfl) (.cons (i:=5) rfl (.inl rfl) (.cons (i:=6) rfl (.inl rfl) .nil)))) (aA (cV (hv (a' (bK ok Pt rfl) (bJ ok So) (.ai (ac 2 rfl) (.ai (ac 3 rfl) (.ai (ac 6 rfl) .nil))) ((Ma ok).cl rfl)) (fun _ _=>rfl)) (aA (ft (de (ac 1 rfl) (kS PySem.F.slot_list_append mD mu) (.ai (d2 (.ai (ac 2 rfl) (.ai (ac 4 rfl) .nil))) .nil) (fun _ _=>rfl) (by rfl) (by decide)) (fun _=>rfl)) (aW)) (aW)) (aW)) (fun _ _=>rfl)) (aW))) (fun _ _=>rfl)) (aA (b7 (ac 1 rfl)) (aW))))
noncomputable def IJ:a5:=[]
theorem T7:(IJ.map (·.1)).Nodup:=by decide
theorem vm(ok:(ay prog w base ar).Ok):ck (ay prog w base ar) 1 668 o2:=by
 refine cU (nm:=IJ) (np:=0) (k:=0) ok (FnAt.of (by rfl) (by kernel_rfl) rfl rfl rfl rfl (by intro s vals az au;obtain rfl:=len0 au;refine BindsTo.of_eq ?_;unfold bindArgs;rfl) T7 (by decide) (by decide)) ?_
 exact(@aA _ _ _ _ _ _ _ (@b7 _ _ _ _ _ _ (@BL _ _ _ _ _ _ _ _ (kI (@a8 _ _ _ _ _ _) (kI (@a8 _ _ _ _ _ _) .nil)) (.cons (@d2 _ _ _ _ _ _ _ (.ai (@a8 _ _ _ _ _ _) (.ai (@a8 _ _ _ _ _ _) (.ai (@a8 _ _ _ _ _ _) (.ai (@bn _ _ _ _ _ _) .nil))))) (.cons (@d2 _ _ _ _ _ _ _ (.ai (@bn _ _ _ _ _ _) (.ai (@bn _ _ _ _ _ _) (.ai (@bn _ _ _ _ _ _) (.ai (@a8 _ _ _ _ _ _) .nil))))) .nil)) (by rfl) (by rfl) (by nofun) (by decide))) (@aW _ _ _))
end
section
variable{prog:Program}{w:World}{base:Heap}{ar:Str→Option Value}
noncomputable def Bf:a5:=[("script",lc),("cell",lc),("cells",lc),("mixed",lc)]
theorem uj:(Bf.map (·.1)).Nodup:=by decide
noncomputable def Iq:a5:=[(".0",lc),("cell",lc),("int",bc)]
theorem Ir:(Iq.map (·.1)).Nodup:=by decide
theorem TY:hY Bf Iq []:=iS (by decide)
theorem Md(ok:(ay prog w base ar).Ok){ad:Addr}{ns:List Int}(aP:vg (ay prog w base ar) ad ns):ck (ay prog w base ar) 2 678 (sF ad ns):=by
 refine cU (nm:=Bf) (np:=1) (k:=1) ok (FnAt.of (by rfl) (by kernel_rfl) rfl rfl rfl rfl (fun _ _ _=>ix fun _=>BindsTo.of_eq rfl) uj (by decide) (by decide)) ?_
 exact(aA (qq uj (d2 (.ai (jY ⟨rfl,rfl,uj,Ir,by decide,TY⟩ (dX (VX ok aP (ac 0 rfl))) (eB (i:=1) Ir rfl (.inl rfl)) (oN) (cw (a' (cf ok rfl ue (by decide+kernel)) (q7 "int") (.ai (ac 1 rfl) .nil) VL) (bn)) (fun _ _=>rfl)) (.ai (bn) .nil))) (.cons (i:=2) rfl (.cons (i:=3) rfl .nil)) rfl (fun _=>rfl)) (aA (eU (dX (ac 2 rfl)) (eB (i:=1) uj rfl (.inl rfl)) (aA (cA (i:=3) (cw (cw (cw (ac 3 rfl) (bn)) (ac 1 rfl)) (bn)) uj rfl (.inl rfl) (fun _=>rfl)) (aW)) (fun _ _=>rfl)) (aA (b7 (BL (kI (a8) (kI (a8) .nil)) (.cons (i8 ok (ac 2 rfl) .none .none (.some (oO (bn)))) (.cons (ac 3 rfl) .nil)) (by rfl) (by rfl) (by nofun) (by decide))) (aW))))
noncomputable def It:a5:=[("deck",lc),("many",lc)]
theorem TZ:(It.map (·.1)).Nodup:=by decide
theorem pf(ok:(ay prog w base ar).Ok):ck (ay prog w base ar) 1 685 je:=by
 refine cU (nm:=It) (np:=2) (k:=0) ok (FnAt.of (by rfl) (by kernel_rfl) rfl rfl rfl rfl (fun _ _ _=>gj fun _ _=>BindsTo.of_eq rfl) TZ (by decide) (by decide)) ?_
 exact(aA (cV (b2 ok (b' ok (ac 0 rfl) (a8) (by intro _ _ _;rfl)) (dQ .nil) (by with_unfolding_all rfl)) (aA (b7 (cw (de (b' ok (ac 0 rfl) (a8) (by intro _ _ _;rfl)) (kS PySem.F.slot_list_pop WY VU) .nil (fun _ _=>rfl) (by rfl) (by decide)) (ac 1 rfl))) (aW)) (aW)) (aA (iK (cw (cw (cw (b' ok (ac 0 rfl) (a8) (by intro _ _ _;rfl)) (bn)) (bn)) (bn)) (ac 0 rfl) (a8) (fun _=>rfl) (fun _=>rfl)) (aA (b7 (cw (cw (b' ok (ac 0 rfl) (a8) (by intro _ _ _;rfl)) (bn)) (ac 1 rfl))) (aW))))
noncomputable def Bh:a5:=[("deck", .cell),("many",lc),("found",lc),("turn",lc),("word",lc),("first",lc),("last",lc),("range",bc),("_law_draw",bc),("_law_sorts",bc)]
theorem r3:(Bh.map (·.1)).Nodup:=by decide
noncomputable def ID:a5:=[(".0",lc),("k",lc),("_law_points",bc),("_law_draw",bc),("deck", .free)]
theorem IE:(ID.map (·.1)).Nodup:=by decide
theorem T4:hY Bh ID [(4,0)]:=iS (by decide)
theorem C7(ok:(ay prog w base ar).Ok):ck (ay prog w base ar) 4 690 o1:=by
 refine cU (nm:=Bh) (np:=2) (k:=3) ok (FnAt.of (by rfl) (by kernel_rfl) rfl rfl rfl rfl (fun _ _ _=>gj fun _ _=>BindsTo.of_eq rfl) r3 (by decide) (by decide)) ?_
 exact(aA (cA (i:=2) (dQ .nil) r3 rfl (.inl rfl) (fun _=>rfl)) (aA (eU (J2 (cf ok rfl Hm (by decide+kernel)) (ur (ac 1 rfl))) (eB (i:=3) r3 rfl (.inl rfl)) (aA (cA (i:=4) (b' ok (d2 (.ai (a8) (.ai (a8) .nil))) (a' (bK ok pJ rfl) (bJ ok p7) (.ai (ac 0 rfl) (.ai (bn) .nil)) ((pf ok).cl rfl)) (by intro _ _ _;rfl)) r3 rfl (.inl rfl) (fun _=>rfl)) (aA (xG r3 (jY ⟨rfl,rfl,r3,IE,by decide,T4⟩ (J2 (cf ok rfl Hm (by decide+kernel)) (ur (bn))) (eB (i:=1) IE rfl (.inl rfl)) (oN) (b' ok (oM (u:=((.tup [.int 0, .int 1, .int 5, .int 127, .int 128, .int 55295, .int 55296, .int 65535, .int 65536, .int 1114111]))) ok rfl Py (WN ok) rfl) (a' (bK ok pJ rfl) (bJ ok p7) (.ai (ac 4 rfl) (.ai (bn) .nil)) ((pf ok).cl rfl)) (by intro _ _ _;rfl)) (fun _ _=>rfl)) (.cons (i:=5) rfl (.inl rfl) (.cons (i:=6) rfl (.inl rfl) .nil)) (fun _=>rfl) (fun _=>rfl)) (aA (ft (de (ac 2 rfl) (kS PySem.F.slot_list_append mD mu) (.ai (d2 (.ai (ac 4 rfl) (.ai (ac 5 rfl) (.ai (ac 6 rfl) (.ai (b' ok (b' ok (a' (bK ok wf rfl) (bJ ok wW) .nil ((vm ok).cl rfl)) (ac 4 rfl) (by intro _ _ _;rfl)) (a' (bK ok pJ rfl) (bJ ok p7) (.ai (ac 0 rfl) (.ai (bn) .nil)) ((pf ok).cl rfl)) (by intro _ _ _;rfl)) .nil))))) .nil) (fun _ _=>rfl) (by rfl) (by decide)) (fun _=>rfl)) (aW)))) (fun _ _=>rfl)) (aA (b7 (ac 2 rfl)) (aW))))
noncomputable def IC:a5:=[("puts",lc),("base",lc),("word",lc),("first",lc),("last",lc),("value",lc),("Data",bc)]
theorem Bg:(IC.map (·.1)).Nodup:=by decide
theorem C6(ok:(ay prog w base ar).Ok):ck (ay prog w base ar) 6 697 o0:=by
 refine cU (nm:=IC) (np:=1) (k:=5) ok (FnAt.of (by rfl) (by kernel_rfl) rfl rfl rfl rfl (fun _ _ _=>ix fun _=>BindsTo.of_eq rfl) Bg (by decide) (by decide)) ?_
 exact(aA (cA (i:=1) (a' (bK ok ET rfl) (bJ ok GC) .nil (mv ok Hc Gd KI ((CT ok).up rfl))) Bg rfl (.inl rfl) (fun _=>rfl)) (aA (eU (dX (ac 0 rfl)) (jZ Bg (.cons (i:=2) rfl (.inl rfl) (.cons (i:=3) rfl (.inl rfl) (.cons (i:=4) rfl (.inl rfl) (.cons (i:=5) rfl (.inl rfl) .nil))))) (aA (ft (de (ac 1 rfl) (fe ok dP G7 ((CU ok).up rfl)) (.ai (ac 2 rfl) (.ai (ac 3 rfl) (.ai (ac 4 rfl) (.ai (ac 5 rfl) .nil)))) (fun _ _=>rfl) (by rfl) (by decide)) (fun _=>rfl)) (aW)) (fun _ _=>rfl)) (aA (b7 (ac 1 rfl)) (aW))))
noncomputable def IK:a5:=[("puts",lc),("word",lc),("code",lc),("told",lc),("name",lc),("first",lc),("last",lc),("value",lc),("_law_sorts",bc)]
theorem xc:(IK.map (·.1)).Nodup:=by decide
theorem qT(ok:(ay prog w base ar).Ok):ck (ay prog w base ar) 3 704 j_:=by
 refine cU (nm:=IK) (np:=3) (k:=2) ok (FnAt.of (by rfl) (by kernel_rfl) rfl rfl rfl rfl (fun _ _ _=>ko fun _ _ _=>BindsTo.of_eq rfl) xc (by decide) (by decide)) ?_
 exact(aA (cA (i:=3) (b' ok (b' ok (a' (bK ok wf rfl) (bJ ok wW) .nil ((vm ok).cl rfl)) (ac 1 rfl) (by intro _ _ _;rfl)) (bn) (by intro _ _ _;rfl)) xc rfl (.inl rfl) (fun _=>rfl)) (aA (eU (dX (ac 0 rfl)) (jZ xc (.cons (i:=4) rfl (.inl rfl) (.cons (i:=5) rfl (.inl rfl) (.cons (i:=6) rfl (.inl rfl) (.cons (i:=7) rfl (.inl rfl) .nil))))) (aA (cV (iI (.cons (b2 ok (ac 4 rfl) (ac 1 rfl) (by with_unfolding_all rfl)) (.cons (BK ok (ac 5 rfl) (ac 2 rfl) (ac 6 rfl) (by with_unfolding_all rfl)) .nil))) (aA (cA (i:=3) (ac 7 rfl) xc rfl (.inl rfl) (fun _=>rfl)) (aW)) (aW)) (aW)) (fun _ _=>rfl)) (aA (b7 (ac 3 rfl)) (aW))))
noncomputable def IA:a5:=[("near",lc),("far",lc),("word",lc),("code",lc),("told",lc),("_law_told",bc),("repr",bc),("_law_sorts",bc)]
theorem IB:(IA.map (·.1)).Nodup:=by decide
theorem C5(ok:(ay prog w base ar).Ok):ck (ay prog w base ar) 4 711 qL:=by
 refine cU (nm:=IA) (np:=4) (k:=3) ok (FnAt.of (by rfl) (by kernel_rfl) rfl rfl rfl rfl (fun _ _ _=>q3 fun _ _ _ _=>BindsTo.of_eq rfl) IB (by decide) (by decide)) ?_
 exact(aA (cA (i:=4) (a' (bK ok ro rfl) (bJ ok rI) (.ai (ac 1 rfl) (.ai (ac 2 rfl) (.ai (ac 3 rfl) .nil))) ((qT ok).cl rfl)) IB rfl (.inl rfl) (fun _=>rfl)) (aA (b7 (gJ (b2 ok (a' (cf ok rfl kN (by decide+kernel)) (c7 "repr") (.ai (ac 4 rfl) .nil) kU) (a' (cf ok rfl kN (by decide+kernel)) (c7 "repr") (.ai (b' ok (b' ok (a' (bK ok wf rfl) (bJ ok wW) .nil ((vm ok).cl rfl)) (ac 2 rfl) (by intro _ _ _;rfl)) (bn) (by intro _ _ _;rfl)) .nil) kU) (by with_unfolding_all rfl)) (ac 4 rfl) (a' (bK ok ro rfl) (bJ ok rI) (.ai (ac 0 rfl) (.ai (ac 2 rfl) (.ai (ac 3 rfl) .nil))) ((qT ok).cl rfl)))) (aW)))
noncomputable def Be:a5:=[("puts",lc),("found",lc),("word",lc),("first",lc),("last",lc),("value",lc),("sorted",bc)]
theorem xa:(Be.map (·.1)).Nodup:=by decide
noncomputable def Io:a5:=[(".0",lc),("code",lc),("_law_last",bc)]
theorem Ip:(Io.map (·.1)).Nodup:=by decide
theorem TX:hY Be Io []:=iS (by decide)
theorem yw(ok:(ay prog w base ar).Ok):ck (ay prog w base ar) 3 716 oZ:=by
 refine cU (nm:=Be) (np:=1) (k:=2) ok (FnAt.of (by rfl) (by kernel_rfl) rfl rfl rfl rfl (fun _ _ _=>ix fun _=>BindsTo.of_eq rfl) xa (by decide) (by decide)) ?_
 exact(aA (cA (i:=1) (VH (R6 (bn) .nil) (.cons (ii) .nil) (by rfl) (by rfl) (by nofun) (by decide)) xa rfl (.inl rfl) (fun _=>rfl)) (aA (eU (dX (ac 0 rfl)) (jZ xa (.cons (i:=2) rfl (.inl rfl) (.cons (i:=3) rfl (.inl rfl) (.cons (i:=4) rfl (.inl rfl) (.cons (i:=5) rfl (.inl rfl) .nil))))) (aA (cV (b2 ok (ac 3 rfl) (ac 4 rfl) (by with_unfolding_all rfl)) (aA (iK (ii) (ac 1 rfl) (ac 3 rfl) (fun _=>rfl) (fun _=>rfl)) (aA (iK (ii) (ac 1 rfl) (cw (ac 4 rfl) (bn)) (fun _=>rfl) (fun _=>rfl)) (aW))) (aW)) (aW)) (fun _ _=>rfl)) (aA (b7 (jY ⟨rfl,rfl,xa,Ip,by decide,TX⟩ (dX (a' (cf ok rfl w6 (by decide+kernel)) (c7 "sorted") (.ai (ac 1 rfl) .nil) (xE ok))) (eB (i:=1) Ip rfl (.inl rfl)) (qp (b2 ok (ac 1 rfl) (oM (u:=(.int 1114111)) ok rfl E4 (fun _=> .mkInt) rfl) (by with_unfolding_all rfl))) (ac 1 rfl) (fun _ _=>rfl))) (aW))))
noncomputable def xb:a5:=[("near",lc),("far",lc),("word", .cell),("cuts",lc),("found",lc),("at",lc),("code",lc),("told",lc),("behind",lc),("_law_cuts",bc),("enumerate",bc),("_law_joined",bc),("len",bc),("_law_last",bc),("repr",bc)]
theorem p':(xb.map (·.1)).Nodup:=by decide
noncomputable def IF:a5:=[(".0",lc),("row",lc),("word", .free)]
theorem IG:(IF.map (·.1)).Nodup:=by decide
theorem T5:hY xb IF [(2,2)]:=iS (by decide)
noncomputable def IH:a5:=[(".0",lc),("row",lc),("repr",bc),("_law_sorts",bc),("word", .free)]
theorem II:(IH.map (·.1)).Nodup:=by decide
theorem T6:hY xb IH [(4,2)]:=iS (by decide)
theorem Mf(ok:(ay prog w base ar).Ok):ck (ay prog w base ar) 6 721 sG:=by
 refine cU (nm:=xb) (np:=3) (k:=5) ok (FnAt.of (by rfl) (by kernel_rfl) rfl rfl rfl rfl (fun _ _ _=>ko fun _ _ _=>BindsTo.of_eq rfl) p' (by decide) (by decide)) ?_
 exact(aA (qq p' (d2 (.ai (a' (bK ok zD rfl) (bJ ok AC) (.ai (jY ⟨rfl,rfl,p',IG,by decide,T5⟩ (dX (cw (ac 0 rfl) (ac 1 rfl))) (eB (i:=1) IG rfl (.inl rfl)) (qp (b2 ok (b' ok (ac 1 rfl) (bn) (by intro _ _ _;rfl)) (ac 2 rfl) (by with_unfolding_all rfl))) (ac 1 rfl) (fun _ _=>rfl)) .nil) ((yw ok).cl rfl)) (.ai (dQ .nil) .nil))) (.cons (i:=3) rfl (.cons (i:=4) rfl .nil)) rfl (fun _=>rfl)) (aA (eU (BO (cf ok rfl A0 (by decide+kernel)) (ur (ac 3 rfl))) (jZ p' (.cons (i:=5) rfl (.inl rfl) (.cons (i:=6) rfl (.inl rfl) .nil))) (aA (cA (i:=7) (a' (bK ok E3 rfl) (bJ ok GL) (.ai (ac 0 rfl) (.ai (ac 1 rfl) (.ai (ac 2 rfl) (.ai (ac 6 rfl) .nil)))) ((C5 ok).cl rfl)) p' rfl (.inl rfl) (fun _=>rfl)) (aA (cA (i:=8) (gJ (b2 ok (cw (ac 5 rfl) (bn)) (a' (cf ok rfl kM (by decide+kernel)) (c7 "len") (.ai (ac 3 rfl) .nil) kT) (by with_unfolding_all rfl)) (cw (b' ok (ac 3 rfl) (cw (ac 5 rfl) (bn)) (by intro _ _ _;rfl)) (bn)) (oM (u:=(.int 1114111)) ok rfl E4 (fun _=> .mkInt) rfl)) p' rfl (.inl rfl) (fun _=>rfl)) (aA (cV (iI (.cons (b2 ok (ac 4 rfl) (dQ .nil) (by with_unfolding_all rfl)) (.cons (b2 ok (a' (cf ok rfl kN (by decide+kernel)) (c7 "repr") (.ai (b' ok (b' ok (ac 4 rfl) (oO (bn)) (by intro _ _ _;rfl)) (bn) (by intro _ _ _;rfl)) .nil) kU) (a' (cf ok rfl kN (by decide+kernel)) (c7 "repr") (.ai (ac 7 rfl) .nil) kU) (by with_unfolding_all rfl)) .nil))) (aA (iK (d2 (.ai (b' ok (b' ok (ac 4 rfl) (oO (bn)) (by intro _ _ _;rfl)) (bn) (by intro _ _ _;rfl)) (.ai (ac 8 rfl) (.ai (ac 7 rfl) .nil)))) (ac 4 rfl) (oO (bn)) (fun _=>rfl) (fun _=>rfl)) (aW)) (aA (ft (de (ac 4 rfl) (kS PySem.F.slot_list_append mD mu) (.ai (d2 (.ai (ac 6 rfl) (.ai (ac 8 rfl) (.ai (ac 7 rfl) .nil)))) .nil) (fun _ _=>rfl) (by rfl) (by decide)) (fun _=>rfl)) (aW))) (aW)))) (fun _ _=>rfl)) (aA (b7 (jY ⟨rfl,rfl,p',II,by decide,T6⟩ (dX (ac 4 rfl)) (eB (i:=1) II rfl (.inl rfl)) (qp (b2 ok (a' (cf ok rfl kN (by decide+kernel)) (c7 "repr") (.ai (b' ok (ac 1 rfl) (bn) (by intro _ _ _;rfl)) .nil) kU) (a' (cf ok rfl kN (by decide+kernel)) (c7 "repr") (.ai (b' ok (b' ok (a' (bK ok wf rfl) (bJ ok wW) .nil ((vm ok).cl rfl)) (ac 4 rfl) (by intro _ _ _;rfl)) (bn) (by intro _ _ _;rfl)) .nil) kU) (by with_unfolding_all rfl))) (ac 1 rfl) (fun _ _=>rfl))) (aW))))
end
section
variable{prog:Program}{w:World}{base:Heap}{ar:Str→Option Value}
noncomputable def IL:a5:=[("base",lc),("other",lc),("near",lc),("way",lc),("forms",lc),("values",lc),("told",lc),("code",lc),("value",lc),("rank",lc),("data_property",bc),("data_value",bc),("data_put_property",bc),("data_put_value",bc),("_law_cuts",bc),("_law_told",bc),("value_matches",bc)]
theorem qa:(IL.map (·.1)).Nodup:=by decide
theorem Mg(ok:(ay prog w base ar).Ok):ck (ay prog w base ar) 9 733 sH:=by
 refine cU (nm:=IL) (np:=4) (k:=8) ok (FnAt.of (by rfl) (by kernel_rfl) rfl rfl rfl rfl (fun _ _ _=>q3 fun _ _ _ _=>BindsTo.of_eq rfl) qa (by decide) (by decide)) ?_
 exact(aA (cA (i:=4) (dQ (.ai (a8) (.ai (a8) (.ai (a8) (.ai (a8) (.ai (a8) .nil)))))) qa rfl (.inl rfl) (fun _=>rfl)) (aA (cA (i:=5) (dQ (.ai (a8) (.ai (a8) (.ai (a8) (.ai (a8) (.ai (a8) .nil)))))) qa rfl (.inl rfl) (fun _=>rfl)) (aA (cV (b2 ok (dQ (.ai (a' (bK ok tB rfl) (bJ ok t9) (.ai (ac 0 rfl) (.ai (b' ok (ac 4 rfl) (ac 3 rfl) (by intro _ _ _;rfl)) .nil)) ((sR ok).cl rfl)) (.ai (a' (bK ok rn rfl) (bJ ok rH) (.ai (ac 0 rfl) (.ai (a8) (.ai (b' ok (ac 5 rfl) (ac 3 rfl) (by intro _ _ _;rfl)) .nil))) ((qS ok).cl rfl)) .nil))) (dQ (.ai (eF) (.ai (eF) .nil))) (by with_unfolding_all rfl)) (aA (b7 (ii)) (aW)) (aW)) (aA (ft (a' (bK ok E1 rfl) (bJ ok GD) (.ai (ac 0 rfl) (.ai (a8) (.ai (dQ (.ai (a8) .nil)) .nil))) ((C3 ok).cl rfl)) (fun _=>rfl)) (aA (ft (a' (bK ok E1 rfl) (bJ ok GD) (.ai (ac 0 rfl) (.ai (a8) (.ai (dQ (.ai (a8) .nil)) .nil))) ((C3 ok).cl rfl)) (fun _=>rfl)) (aA (ft (a' (bK ok E2 rfl) (bJ ok GE) (.ai (ac 0 rfl) (.ai (a8) (.ai (a8) (.ai (dQ (.ai (a8) (.ai (a8) .nil))) .nil)))) ((C4 ok).cl rfl)) (fun _=>rfl)) (aA (ft (a' (bK ok E2 rfl) (bJ ok GE) (.ai (ac 0 rfl) (.ai (a8) (.ai (a8) (.ai (dQ (.ai (a8) (.ai (a8) .nil))) .nil)))) ((C4 ok).cl rfl)) (fun _=>rfl)) (aA (cA (i:=6) (dQ (.ai (a' (bK ok tB rfl) (bJ ok t9) (.ai (ac 0 rfl) (.ai (b' ok (ac 4 rfl) (ac 3 rfl) (by intro _ _ _;rfl)) .nil)) ((sR ok).cl rfl)) (.ai (a' (bK ok tB rfl) (bJ ok t9) (.ai (ac 0 rfl) (.ai (a8) .nil)) ((sR ok).cl rfl)) (.ai (a' (bK ok tB rfl) (bJ ok t9) (.ai (ac 0 rfl) (.ai (a8) .nil)) ((sR ok).cl rfl)) (.ai (a' (bK ok tB rfl) (bJ ok t9) (.ai (ac 1 rfl) (.ai (b' ok (ac 4 rfl) (ac 3 rfl) (by intro _ _ _;rfl)) .nil)) ((sR ok).cl rfl)) .nil))))) qa rfl (.inl rfl) (fun _=>rfl)) (aA (cV (b2 ok (ac 6 rfl) (dQ (.ai (a8) (.ai (a8) (.ai (eF) (.ai (eF) .nil))))) (by with_unfolding_all rfl)) (aA (b7 (ii)) (aW)) (aW)) (aA (cA (i:=6) (dQ (.ai (a' (bK ok rn rfl) (bJ ok rH) (.ai (ac 0 rfl) (.ai (a8) (.ai (b' ok (ac 5 rfl) (ac 3 rfl) (by intro _ _ _;rfl)) .nil))) ((qS ok).cl rfl)) (.ai (a' (bK ok rn rfl) (bJ ok rH) (.ai (ac 0 rfl) (.ai (a8) (.ai (a8) .nil))) ((qS ok).cl rfl)) (.ai (a' (bK ok rn rfl) (bJ ok rH) (.ai (ac 0 rfl) (.ai (a8) (.ai (a8) .nil))) ((qS ok).cl rfl)) (.ai (a' (bK ok rn rfl) (bJ ok rH) (.ai (ac 1 rfl) (.ai (a8) (.ai (b' ok (ac 5 rfl) (ac 3 rfl) (by intro _ _ _;rfl)) .nil))) ((qS ok).cl rfl)) .nil))))) qa rfl (.inl rfl) (fun _=>rfl)) (aA (cV (b2 ok (ac 6 rfl) (dQ (.ai (a8) (.ai (a8) (.ai (eF) (.ai (eF) .nil))))) (by with_unfolding_all rfl)) (aA (b7 (ii)) (aW)) (aW)) (aA (eU (dX (i8 ok (a' (bK ok zD rfl) (bJ ok AC) (.ai (ac 2 rfl) .nil) ((yw ok).cl rfl)) .none (.some (bn)) .none)) (eB (i:=7) qa rfl (.inl rfl)) (aA (qq qa (d2 (.ai (a' (bK ok ro rfl) (bJ ok rI) (.ai (ac 2 rfl) (.ai (a8) (.ai (ac 7 rfl) .nil))) ((qT ok).cl rfl)) (.ai (a' (bK ok ro rfl) (bJ ok rI) (.ai (ac 2 rfl) (.ai (a8) (.ai (ac 7 rfl) .nil))) ((qT ok).cl rfl)) .nil))) (.cons (i:=8) rfl (.cons (i:=9) rfl .nil)) rfl (fun _=>rfl)) (aA (cV (iI (.cons (b2 ok (ac 8 rfl) (bn) (by with_unfolding_all rfl)) (.cons (b2 ok (a' (bK ok E8 rfl) (bJ ok GH) (.ai (ac 0 rfl) (.ai (a8) (.ai (ac 7 rfl) (.ai (b' ok (ac 5 rfl) (ac 3 rfl) (by intro _ _ _;rfl)) .nil)))) ((C9 ok).cl rfl)) (hO ok (ac 8 rfl) (a8) (by with_unfolding_all rfl)) (by with_unfolding_all rfl)) .nil))) (aA (b7 (ii)) (aW)) (aW)) (aA (cV (iI (.cons (b2 ok (ac 9 rfl) (a8) (by with_unfolding_all rfl)) (.cons (b2 ok (a' (bK ok E8 rfl) (bJ ok GH) (.ai (ac 0 rfl) (.ai (a8) (.ai (ac 7 rfl) (.ai (a8) .nil)))) ((C9 ok).cl rfl)) (hO ok (ac 9 rfl) (bn) (by with_unfolding_all rfl)) (by with_unfolding_all rfl)) .nil))) (aA (b7 (ii)) (aW)) (aW)) (aW)))) (fun _ _=>rfl)) (aA (b7 (ii)) (aW))))))))))))))
noncomputable def HR:a5:=[("data",lc),("found",lc),("data_faults",bc),("len",bc),("BadTable",bc)]
theorem HS:(HR.map (·.1)).Nodup:=by decide
noncomputable def r1:a5:=[("both",lc),("rows",lc),("due",lc),("fault",lc),("data_faults",bc),("check_data",bc),("BadTable",bc),("tuple",bc)]
theorem r2:(r1.map (·.1)).Nodup:=by decide
noncomputable def Iu:a5:=[(".0",lc),("row",lc)]
theorem Iv:(Iu.map (·.1)).Nodup:=by decide
theorem T1:hY r1 Iu []:=iS (by decide)
noncomputable def Iw:a5:=[(".0",lc),("row",lc)]
theorem Ix:(Iw.map (·.1)).Nodup:=by decide
theorem T2:hY r1 Iw []:=iS (by decide)
noncomputable def Iy:a5:=[(".0",lc),("row",lc),("tuple",bc)]
theorem Iz:(Iy.map (·.1)).Nodup:=by decide
theorem T3:hY r1 Iy []:=iS (by decide)
theorem Me(ok:(ay prog w base ar).Ok):pg (ay prog w base ar) 11 726 u_:=by
 obtain⟨dT,dC,ig,mj,rl⟩:=Oq ok
 refine JZ (nm:=r1) (np:=2) (k:=10) ok (FnAt.of (by rfl) (by kernel_rfl) rfl rfl rfl rfl (fun _ _ _=>gj fun _ _=>BindsTo.of_eq rfl) r2 (by decide) (by decide)) ?_
 exact(i9) (@eC.x _ _ _ _ _ (cA (i:=2) (cw (jY ⟨rfl,rfl,r2,Iv,by decide,T1⟩ (dX (b' ok (ac 1 rfl) (a8) (by intro _ _ _;rfl))) (eB (i:=1) Iv rfl (.inl rfl)) (qp (b2 ok (b' ok (ac 1 rfl) (bn) (by intro _ _ _;rfl)) (a8) (by with_unfolding_all rfl))) (d2 (.ai (a8) (.ai (b' ok (ac 1 rfl) (bn) (by intro _ _ _;rfl)) .nil))) (fun _ _=>rfl)) (jY ⟨rfl,rfl,r2,Ix,by decide,T2⟩ (dX (b' ok (ac 1 rfl) (a8) (by intro _ _ _;rfl))) (eB (i:=1) Ix rfl (.inl rfl)) (qp (b2 ok (b' ok (ac 1 rfl) (bn) (by intro _ _ _;rfl)) (bn) (by with_unfolding_all rfl))) (d2 (.ai (a8) (.ai (b' ok (ac 1 rfl) (bn) (by intro _ _ _;rfl)) .nil))) (fun _ _=>rfl))) r2 rfl (.inl rfl) (fun _=>rfl))) (i9 (@eC.x _ _ _ _ _ (cV (b2 ok (jY ⟨rfl,rfl,r2,Iz,by decide,T3⟩ (dX (a' (bK ok EY rfl) (bJ ok GI) (.ai (ac 0 rfl) .nil) ((C0 ok).cl rfl))) (eB (i:=1) Iz rfl (.inl rfl)) (oN) (a' (cf ok rfl rV (by decide+kernel)) (q7 "tuple") (.ai (ac 1 rfl) .nil) xF) (fun _ _=>rfl)) (ac 2 rfl) (by with_unfolding_all rfl)) (aA (b7 (ii)) (aW)) (aW))) (i9 (V0 (nm:=r1) (k:=7) (nmc:=HR) (i:=3) ok (FnAt.of (by rfl) (by kernel_rfl) rfl rfl rfl rfl (fun _ _ _=>ix fun _=>BindsTo.of_eq rfl) HS (by decide) (by decide)) (cA (i:=1) (a' (bK ok EY rfl) (bJ ok GI) (.ai (ac 0 rfl) .nil) ((C0 ok).cl rfl)) HS rfl (.inl rfl) (fun _=>rfl)) (b2 ok (a' (cf ok rfl kM (by decide+kernel)) (c7 "len") (.ai (ac 1 rfl) .nil) kT) (bn) (by with_unfolding_all rfl)) Ov rl (bK ok ER rfl) (bJ ok Si) (.ai (b' ok (ac 1 rfl) (bn) (by intro _ _ _;rfl)) .nil) (bK ok Pl rfl) (bJ ok Sp) (.ai (ac 0 rfl) .nil) (fun _=>rfl) Ou Oo Ot rfl r2 rfl rfl (bK ok ER rfl) (fun _ _=>rfl) (hO ok (ac 2 rfl) (dQ .nil) (by with_unfolding_all rfl)) (b' ok (ac 2 rfl) (bn) (by intro _ _ _;rfl)) (cf ok rfl rV (by decide+kernel)) rfl (by intro _ _ _;rfl) (by intro _ _ _;rfl)) (i9 (@eC.x _ _ _ _ _ (b7 (hO ok (ac 2 rfl) (dQ .nil) (by with_unfolding_all rfl)))) (J6))))
noncomputable def w':a5:=[("script",lc),("deck",lc),("near",lc),("far",lc),("base",lc),("other",lc),("both",lc),("low",lc),("mid",lc),("frozen",lc),("rows",lc),("word", .cell),("code",lc),("due",lc),("told",lc),("_law_deck",bc),("_law_puts",bc),("_law_draw",bc),("_law_made",bc),("data_joined",bc),("_law_bits",bc),("data_frozen",bc),("_law_rows",bc),("_law_cuts",bc),("_law_joined",bc),("repr",bc),("_law_told",bc),("_law_faults_right",bc),("_law_words_right",bc)]
theorem i1:(w'.map (·.1)).Nodup:=by decide
noncomputable def Ij:a5:=[(".0",lc),("row",lc),("word", .free)]
theorem Ik:(Ij.map (·.1)).Nodup:=by decide
theorem TT:hY w' Ij [(2,11)]:=iS (by decide)
noncomputable def Bc:a5:=[(".0",lc),("some",lc),("word", .free)]
theorem Bd:(Bc.map (·.1)).Nodup:=by decide
theorem TV:hY w' Bc [(2,11)]:=iS (by decide)
noncomputable def Il:a5:=[(".0",lc),("row",lc),("tuple",bc)]
theorem Im:(Il.map (·.1)).Nodup:=by decide
theorem TU:hY Bc Il []:=iS (by decide)
theorem Mc(ok:(ay prog w base ar).Ok){ad:Addr}{ns:List Int}(aP:vg (ay prog w base ar) ad ns):pg (ay prog w base ar) 14 738 (u9 ad ns):=by
 refine JZ (nm:=w') (np:=1) (k:=13) ok (FnAt.of (by rfl) (by kernel_rfl) rfl rfl rfl rfl (fun _ _ _=>ix fun _=>BindsTo.of_eq rfl) i1 (by decide) (by decide)) ?_
 exact(i9 (@eC.x _ _ _ _ _ (cA (i:=1) (a' (bK ok Pw rfl) (bJ ok Sq) (.ai (ac 0 rfl) .nil) (((Md ok aP).le (by decide)).call)) i1 rfl (.inl rfl) (fun _=>rfl))) (i9 (@eC.x _ _ _ _ _ (cA (i:=2) (a' (bK ok E6 rfl) (bJ ok GJ) (.ai (ac 1 rfl) (.ai (cw (bn) (a' (bK ok pJ rfl) (bJ ok p7) (.ai (ac 1 rfl) (.ai (bn) .nil)) ((pf ok).cl rfl))) .nil)) ((C7 ok).cl rfl)) i1 rfl (.inl rfl) (fun _=>rfl))) (i9 (@eC.x _ _ _ _ _ (cA (i:=3) (a' (bK ok E6 rfl) (bJ ok GJ) (.ai (ac 1 rfl) (.ai (a' (bK ok pJ rfl) (bJ ok p7) (.ai (ac 1 rfl) (.ai (bn) .nil)) ((pf ok).cl rfl)) .nil)) ((C7 ok).cl rfl)) i1 rfl (.inl rfl) (fun _=>rfl))) (i9 (@eC.x _ _ _ _ _ (qq i1 (d2 (.ai (a' (bK ok E5 rfl) (bJ ok GK) (.ai (ac 2 rfl) .nil) ((C6 ok).cl rfl)) (.ai (a' (bK ok E5 rfl) (bJ ok GK) (.ai (ac 3 rfl) .nil) ((C6 ok).cl rfl)) .nil))) (.cons (i:=4) rfl (.cons (i:=5) rfl .nil)) rfl (fun _=>rfl))) (i9 (@eC.x _ _ _ _ _ (cA (i:=6) (a' (bK ok Pp rfl) (bJ ok Sh) (.ai (ac 4 rfl) (.ai (ac 5 rfl) .nil)) ((L8 ok).cl rfl)) i1 rfl (.inl rfl) (fun _=>rfl))) (i9 (@eC.x _ _ _ _ _ (xG i1 (b' ok (oM (u:=((.tup [(.tup [.int 6, .int 5]),(.tup [.int 7, .int 6]),(.tup [.int 8, .int 8]),(.tup [.int 4, .int 9])]))) ok rfl Pv (WM ok) rfl) (a' (bK ok pJ rfl) (bJ ok p7) (.ai (ac 1 rfl) (.ai (bn) .nil)) ((pf ok).cl rfl)) (by intro _ _ _;rfl)) (.cons (i:=7) rfl (.inl rfl) (.cons (i:=8) rfl (.inl rfl) .nil)) (fun _=>rfl) (fun _=>rfl))) (i9 (@eC.x _ _ _ _ _ (cA (i:=9) (a' (bK ok Pn rfl) (bJ ok Sg) (.ai (ac 6 rfl) (.ai (ac 7 rfl) (.ai (ac 8 rfl) .nil))) ((L6 ok).cl rfl)) i1 rfl (.inl rfl) (fun _=>rfl))) (i9 (@eC.x _ _ _ _ _ (cA (i:=10) (xC) i1 rfl (.inl rfl) (fun _=>rfl))) (i9 (@eC.x _ _ _ _ _ (eU (dX (d2 (.ai (a8) (.ai (a8) .nil)))) (eB (i:=11) i1 rfl (.inr rfl)) (aA (iK (a' (bK ok Pz rfl) (bJ ok Sr) (.ai (ac 2 rfl) (.ai (ac 3 rfl) (.ai (ac 11 rfl) .nil))) ((Mf ok).cl rfl)) (ac 10 rfl) (ac 11 rfl) (fun _=>rfl) (fun _=>rfl)) (aA (eU (dX (a' (bK ok zD rfl) (bJ ok AC) (.ai (jY ⟨rfl,rfl,i1,Ik,by decide,TT⟩ (dX (cw (ac 2 rfl) (ac 3 rfl))) (eB (i:=1) Ik rfl (.inl rfl)) (qp (b2 ok (b' ok (ac 1 rfl) (bn) (by intro _ _ _;rfl)) (ac 2 rfl) (by with_unfolding_all rfl))) (ac 1 rfl) (fun _ _=>rfl)) .nil) ((yw ok).cl rfl))) (eB (i:=12) i1 rfl (.inl rfl)) (aA (cA (i:=13) (a' (bK ok E3 rfl) (bJ ok GL) (.ai (ac 2 rfl) (.ai (ac 3 rfl) (.ai (ac 11 rfl) (.ai (ac 12 rfl) .nil)))) ((C5 ok).cl rfl)) i1 rfl (.inl rfl) (fun _=>rfl)) (aA (cA (i:=14) (dQ (.ai (de (ac 6 rfl) (fe ok dP rQ ((qR ok).up rfl)) (.ai (ac 11 rfl) (.ai (ac 12 rfl) .nil)) (fun _ _=>rfl) (by rfl) (by decide)) (.ai (de (ac 9 rfl) (fe ok iR AP ((ys ok).up rfl)) (.ai (ac 11 rfl) (.ai (ac 12 rfl) .nil)) (fun _ _=>rfl) (by rfl) (by decide)) (.ai (de (ac 4 rfl) (fe ok dP rQ ((qR ok).up rfl)) (.ai (ac 11 rfl) (.ai (ac 12 rfl) .nil)) (fun _ _=>rfl) (by rfl) (by decide)) (.ai (de (ac 5 rfl) (fe ok dP rQ ((qR ok).up rfl)) (.ai (ac 11 rfl) (.ai (ac 12 rfl) .nil)) (fun _ _=>rfl) (by rfl) (by decide)) .nil))))) i1 rfl (.inl rfl) (fun _=>rfl)) (aA (cV (b2 ok (a' (cf ok rfl kN (by decide+kernel)) (c7 "repr") (.ai (ac 14 rfl) .nil) kU) (a' (cf ok rfl kN (by decide+kernel)) (c7 "repr") (.ai (dQ (.ai (ac 13 rfl) (.ai (ac 13 rfl) (.ai (a' (bK ok ro rfl) (bJ ok rI) (.ai (ac 2 rfl) (.ai (ac 11 rfl) (.ai (ac 12 rfl) .nil))) ((qT ok).cl rfl)) (.ai (a' (bK ok ro rfl) (bJ ok rI) (.ai (ac 3 rfl) (.ai (ac 11 rfl) (.ai (ac 12 rfl) .nil))) ((qT ok).cl rfl)) .nil))))) .nil) kU) (by with_unfolding_all rfl)) (aA (b7 (ii)) (aW)) (aW)) (aW)))) (fun _ _=>rfl)) (aA (cV (b2 ok (b' ok (ac 10 rfl) (ac 11 rfl) (by intro _ _ _;rfl)) (dQ .nil) (by with_unfolding_all rfl)) (aA (J5 (i:=14) ⟨rfl,rfl,i1,Bd,by decide,TV⟩ (dX (d2 (.ai (ac 6 rfl) (.ai (ac 9 rfl) .nil)))) (eB (i:=1) Bd rfl (.inl rfl)) (oN) (jY ⟨rfl,rfl,Bd,Im,by decide,TU⟩ (dX (de (de (ac 1 rfl) (Vv (fe ok dP G6 ((CS ok).up rfl)) (fe ok iR S5 ((L0 ok).up rfl))) (.ai (ac 2 rfl) .nil) (fun _ _=>rfl) (by rfl) (by decide)) (fe ok f' AQ ((yt ok).up rfl)) .nil (fun _ _=>rfl) (by rfl) (by decide))) (eB (i:=1) Im rfl (.inl rfl)) (oN) (a' (cf ok rfl rV (by decide+kernel)) (q7 "tuple") (.ai (ac 1 rfl) .nil) xF) (fun _ _=>rfl)) rfl rfl (by decide) (fun _ _=>rfl)) (aA (cV (b2 ok (a' (cf ok rfl kN (by decide+kernel)) (c7 "repr") (.ai (ac 14 rfl) .nil) kU) (a' (cf ok rfl kN (by decide+kernel)) (c7 "repr") (.ai (dQ (.ai (b' ok (ac 10 rfl) (ac 11 rfl) (by intro _ _ _;rfl)) (.ai (b' ok (ac 10 rfl) (ac 11 rfl) (by intro _ _ _;rfl)) .nil))) .nil) kU) (by with_unfolding_all rfl)) (aA (b7 (ii)) (aW)) (aW)) (aW))) (aW)) (aW)))) (fun _ _=>rfl))) (i9 (@eC.x _ _ _ _ _ (cV (b2 ok (a' (cf ok rfl kN (by decide+kernel)) (c7 "repr") (.ai (dQ (.ai (de (ac 6 rfl) (fe ok dP rQ ((qR ok).up rfl)) (.ai (a8) (.ai (bn) .nil)) (fun _ _=>rfl) (by rfl) (by decide)) (.ai (de (ac 9 rfl) (fe ok iR AP ((ys ok).up rfl)) (.ai (a8) (.ai (bn) .nil)) (fun _ _=>rfl) (by rfl) (by decide)) (.ai (de (ac 9 rfl) (fe ok iR AP ((ys ok).up rfl)) (.ai (a8) (.ai (bn) .nil)) (fun _ _=>rfl) (by rfl) (by decide)) .nil)))) .nil) kU) (a' (cf ok rfl kN (by decide+kernel)) (c7 "repr") (.ai (dQ (.ai (a8) (.ai (a8) (.ai (eF) .nil)))) .nil) kU) (by with_unfolding_all rfl)) (aA (b7 (ii)) (aW)) (aW))) (i9 (VV (bK ok Px rfl) (bJ ok Ss) (.ai (ac 6 rfl) (.ai (ac 10 rfl) .nil)) ((Me ok).le (by decide)) (a' (bK ok PA rfl) (bJ ok Su) (.ai (ac 4 rfl) (.ai (ac 5 rfl) (.ai (ac 2 rfl) (.ai (a' (bK ok pJ rfl) (bJ ok p7) (.ai (ac 1 rfl) (.ai (bn) .nil)) ((pf ok).cl rfl)) .nil)))) ((Mg ok).cl rfl))) (J6))))))))))))
end
theorem bi{α β:Type}{o:Option α}{K:α→Option β}{a:α}{r:Option β}(h:o=some a)(k:K a=r):o.bind K=r:=h▸k
theorem bm{α β:Type}{o:Option α}{f:α→β}{a:α}(h:o=some a):o.map f=some (f a):=h▸rfl
theorem li{H:ao}{l:Nat}{xs:List V}(h:H[l]?=some (.list xs)):h_ H[l]?=some xs:=congrArg h_ h
theorem mt{H:ao}{l:Nat}{ps:List (Str×V)}(h:H[l]?=some (.aS ps)):lW H[l]?=some ps:=congrArg lW h
theorem W7(H:ao)(a b:Str):vEq H (.str a) (.str b)=some (a==b):=rfl
theorem m6{σ:aN}(i:Nat)(v:V)(j:Nat):upd σ i v j=if j=i then some v else σ j:=rfl
theorem AO{n:Nat}(h:n≤1000000):n<kx:=Nat.lt_of_le_of_lt h (by decide)
section
variable{σ b3:aN}{H H1 aG H3 cW:ao}{D R jB:a0}{bb:List a0}{v x y z:V}{vs xs:List V}{i:Nat}{r:V×ao}{b:Bool}{T U:cK}{fI:List cK}{p:Bool×ao}
theorem aF:aj v σ H=some (v,H):=rfl
theorem ae(h:σ i=some v):aa i σ H=some (v,H):=bm h
theorem bZ{C:Addr}{n:Str}(ag:D σ H=some (x,H1))(ah:gf C n x H1=some v):bp C n D σ H=some (v,H1):=bi ag (bm ah)
theorem cm(ag:D σ H=some (x,H1))(ah:R σ H1=some (y,aG))(aE:f5 x y aG=some v):bG D R σ H=some (v,aG):=bi ag (bi ah (bm aE))
theorem cT{op:Operator}(ag:D σ H=some (x,H1))(ah:R σ H1=some (y,aG))(aE:ik op x y aG=some r):bI op D R σ H=some r:=bi ag (bi ah aE)
theorem aJ:eH [] σ H=some ([],H):=rfl
theorem ak(ag:D σ H=some (v,H1))(ah:eH bb σ H1=some (vs,aG)):eH (D::bb) σ H=some (v::vs,aG):=bi ag (bi ah rfl)
theorem bf{F:bz}(ag:eH bb σ H=some (vs,H1))(ah:F vs H1=some r):aO F bb σ H=some r:=bi ag ah
theorem dM{sel:Sel}{F:bz}(ag:D σ H=some (x,H1))(ah:sel x H1=some (F,true))(aE:eH bb σ H1=some (vs,aG))(a7:F (x::vs) aG=some r):b5 sel D bb σ H=some r:=bi ag (bi ah (bi aE a7))
theorem NB{sel:Sel}{F:bz}(ag:D σ H=some (x,H1))(ah:sel x H1=some (F,false))(aE:eH bb σ H1=some (vs,aG))(a7:F vs aG=some r):b5 sel D bb σ H=some r:=bi ag (bi ah (bi aE a7))
theorem d4(ag:eH bb σ H=some (vs,H1))(ah:vs.length≤1000):dList bb σ H=some (.loc H1.length,H1++[.list vs]):=bi ag (if_pos ah)
theorem et(ag:eH bb σ H=some (vs,H1))(ah:vs.length≤1000):cQ bb σ H=some (.tup vs,H1):=bi ag (if_pos ah)
theorem oj(ag:T σ H=some (true,H1))(ah:D σ H1=some r):fb T D R σ H=some r:=bi ag ah
theorem lp(ag:T σ H=some (false,H1))(ah:R σ H1=some r):fb T D R σ H=some r:=bi ag ah
theorem gR:m3 none σ H=some (none,H):=rfl
theorem l1{n:Int}(h:D σ H=some (.int n,H1)):m3 (some D) σ H=some (some n,H1):=bi h rfl
theorem l2{lo hi st:Option a0}{a b c:Option Int}(ag:D σ H=some (x,H1))(ah:m3 lo σ H1=some (a,aG))(aE:m3 hi σ aG=some (b,H3))(a7:m3 st σ H3=some (c,cW))(cj:sm x a b c cW=some r):eX D lo hi st σ H=some r:=bi ag (bi ah (bi aE (bi a7 cj)))
theorem oi{n:Int}(h:D σ H=some (.int n,H1)):jn D σ H=some (.int (-n),H1):=bi h rfl
theorem y7(ag:D σ H=some (x,H1))(ah:R σ H1=some (y,aG))(aE:nJ x y aG=some (some v)):tg D R σ H=some (v,aG):=bi ag (bi ah (bm (bi aE rfl)))
theorem l0{op:CmpOp}(ag:D σ H=some (x,H1))(ah:R σ H1=some (y,aG))(aE:hW op x y aG=some b):eP op D R σ H=some (.bool b,aG):=bi ag (bi ah (bm aE))
theorem bV{op:CmpOp}(ag:D σ H=some (x,H1))(ah:R σ H1=some (y,aG))(aE:hW op x y aG=some b):bq op D R σ H=some (b,aG):=bi ag (bi ah (bm aE))
theorem gL{gX hq:CmpOp}(ag:D σ H=some (x,H1))(ah:R σ H1=some (y,aG))(aE:hW gX x y aG=some true)(a7:jB σ aG=some (z,H3))(cj:hW hq y z H3=some b):lj gX hq D R jB σ H=some (b,H3):=bi ag (bi ah (bi aE (bi a7 (bm cj))))
theorem Kq{gX hq:CmpOp}(ag:D σ H=some (x,H1))(ah:R σ H1=some (y,aG))(aE:hW gX x y aG=some false):lj gX hq D R jB σ H=some (false,aG):=bi ag (bi ah (bi aE rfl))
theorem iL(h:D σ H=some (.bool b,H1)):fx D σ H=some (b,H1):=bi h rfl
theorem xP(h:T σ H=some (b,H1)):po T σ H=some (!b,H1):=bi h rfl
theorem sh:ei [] σ H=some (true,H):=rfl
theorem g5(ag:T σ H=some (true,H1))(ah:ei fI σ H1=some p):ei (T::fI) σ H=some p:=bi ag ah
theorem fE(ag:T σ H=some (false,H1)):ei (T::fI) σ H=some (false,H1):=bi ag rfl
theorem Wi{c:Bool}(ag:T σ H=some (c,H1))(ah:c=b):ei [T] σ H=some (b,H1):=by
 subst ah
 cases c with
 |true=>exact g5 ag rfl
 |false=>exact fE ag
theorem xQ:kr [] σ H=some (false,H):=rfl
theorem mA(ag:T σ H=some (false,H1))(ah:kr fI σ H1=some p):kr (T::fI) σ H=some p:=bi ag ah
theorem Kr(ag:T σ H=some (true,H1)):kr (T::fI) σ H=some (true,H1):=bi ag rfl
theorem B6{neg:Bool}{o:Option V}(ag:D σ H=some (x,H1))(ah:R σ H1=some (y,aG))(aE:nJ y x aG=some o):td neg D R σ H=some (o.isSome !=neg,aG):=bi ag (bi ah (bm aE))
theorem Ny(h:D σ H=some (.bool b,H1)):gz b (D::R::bb) σ H=some (.bool b,H1):=bi h (if_pos rfl)
theorem tl{c:Bool}(h:D σ H=some (.bool c,H1))(ah:gz b (R::bb) σ H1=some r)(aU:c≠b:=by decide):gz b (D::R::bb) σ H=some r:=bi h ((if_neg aU).trans ah)
theorem el{nx:fk}(ag:D σ H=some (v,H1))(ah:Bl v H1=some nx):cP D σ H=some (nx,H1):=bi ag (bm ah)
theorem Aj{l:Nat}(ag:D σ H=some (.loc l,H1))(ah:H1[l]?=some (.list xs)):te D σ H=some (ul l,H1):=bi ag (bm (bm (li ah)))
end
inductive Run{β:Type}(x:Option β)(K:β→Prop):Prop
 |mk (r:β):x=some r→K r→Run x K
theorem Run.eq{β:Type}{x:Option β}{r:β}{K:β→Prop}(h:x=some r)(k:K r):Run x K:=⟨r,h,k⟩
theorem Run.is{β:Type}{x:Option β}{r:β}(h:Run x fun p=>p=r):x=some r:=by obtain⟨_,e,rfl⟩:=h;exact e
theorem Run.ex{α β:Type}{x:Option (α×β)}{a:α}{P:β→Prop}(h:Run x fun p=>p.1=a∧P p.2):∃b,x=some (a,b)∧P b:=by obtain⟨⟨_,_⟩,e,rfl,p⟩:=h;exact⟨_,e,p⟩
noncomputable abbrev Out:=mL×aN×ao
noncomputable def n4(R:b9)(K:Out→Prop):Out→Prop
 |(.next,σ,H)=>Run (R σ H) K
 |(.ret v,σ,H)=>K (.ret v,σ,H)
noncomputable def Fin(K:V×ao→Prop):Out→Prop
 |(.ret v,_,H)=>K (v,H)
 |(.next,_,H)=>K (.none,H)
section
variable{σ:aN}{H H' H1 aG H3:ao}{u2 D E:a0}{v x y z:V}{vs xs:List V}{i:Nat}{T:cK}{S A B R:b9}{K:Out→Prop}
theorem gu{α β:Type}{o:Option α}{L:α→Option β}{a:α}{K:β→Prop}(h:o=some a)(k:Run (L a) K):Run (o.bind L) K:=h▸k
theorem nC(h:Run (S σ H) (n4 R K)):Run (aq S R σ H) K:=
 by
 obtain⟨⟨a3,_,_⟩,e,k⟩:=h
 cases a3 with
 |next=>exact gu e k
 |ret _=>exact gu e ⟨_,rfl,k⟩
theorem cu{np:Nat}{as:List V}{K:V×ao→Prop}(h:Run (S (f_ as) H) (Fin K))(aD:as.length=np):Run (cD np S as H) K:=by
 unfold cD
 rw[if_pos aD]
 obtain⟨⟨a3,_,_⟩,e,k⟩:=h
 cases a3 with
 |next=>exact gu e ⟨_,rfl,k⟩
 |ret _=>exact gu e ⟨_,rfl,k⟩
theorem gZ(h:Run (R σ H) K):Run (aI σ H) (n4 R K):=⟨_,rfl,h⟩
theorem oJ{ba:aN}(h:S σ H=some (.next,ba,H'))(k:Run (R ba H') K):Run (aq S R σ H) K:=nC ⟨_,h,k⟩
theorem cq(h:D σ H=some (v,H1))(k:Run (R (upd σ i v) H1) K):Run (aq (bT i D) R σ H) K:=oJ (bi h rfl) k
theorem ge(h:D σ H=some (v,H1))(k:Run (R σ H1) K):Run (aq (c8 D) R σ H) K:=oJ (bi h rfl) k
theorem fs(h:T σ H=some (true,H1))(k:Run (A σ H1) (n4 R K)):Run (aq (b8 T A B) R σ H) K:=nC (gu h k)
theorem r_(h:T σ H=some (false,H1))(k:Run (B σ H1) (n4 R K)):Run (aq (b8 T A B) R σ H) K:=nC (gu h k)
theorem c6(h:T σ H=some (false,H1))(k:Run (R σ H1) K):Run (aq (b8 T A aI) R σ H) K:=r_ h (gZ k)
theorem cN(h:D σ H=some (v,H1))(k:K (.ret v,σ,H1)):Run (aq (bS D) R σ H) K:=nC ⟨_,bi h rfl,k⟩
theorem U0(h:Run (D σ H) fun p=>K (.ret p.1,σ,p.2)):Run (aq (bS D) R σ H) K:=by obtain⟨_,e,k⟩:=h;exact cN e k
theorem UZ(k:K (.ret .none,σ,H)):Run (aq y0 R σ H) K:=nC ⟨_,rfl,k⟩
theorem qf{is:List Nat}(h:D σ H=some (.tup xs,H1))(aD:xs.length=is.length)(k:Run (R (mF σ is.reverse xs.reverse) H1) K):Run (aq (kt is D) R σ H) K:=oJ (bi h (bi rfl (if_pos aD))) k
theorem xn{is:List Nat}{b3:aN}(h:D σ H=some (v,H1))(aD:gM is v σ H1=some b3)(k:Run (R b3 H1) K):Run (aq (pv is D) R σ H) K:=oJ (bi h (bm aD)) k
theorem jW(aR:E σ H=some (v,H1))(aT:u2 σ H1=some (x,aG))(hi:D σ aG=some (y,H3))(aY:nL x y v H3=some H')(k:Run (R σ H') K):Run (aq (gA u2 D E) R σ H) K:=oJ (bi aR (bi aT (bi hi (bm aY)))) k
theorem nA{C l:Nat}{n:Str}{ps:List (Str×V)}(aR:E σ H=some (v,H1))(aT:D σ H1=some (.ins C l,aG))(au:aG[l]?=some (.aS ps))(hz:ps.length≤900)(k:Run (R σ (aG.set l (.aS (b0 n v ps)))) K):Run (aq (dF C n D E) R σ H) K:=
 oJ (bi aR (bi aT (bi rfl ((if_pos rfl).trans (bi (mt au) (if_pos hz)))))) k
theorem UW{bD:Out→Prop}(h:Run (S σ H) bD)(k:∀r,bD r→n4 R K r):Run (aq S R σ H) K:=nC (by obtain⟨r,e,j⟩:=h;exact⟨r,e,k r j⟩)
theorem Run.mono{β:Type}{x:Option β}{K bD:β→Prop}(h:Run x bD)(k:∀r,bD r→K r):Run x K:=by obtain⟨r,e,j⟩:=h;exact⟨r,e,k r j⟩
noncomputable def ip(I:aN→ao→Prop)(K:Out→Prop):Out→Prop
 |(.next,σ,H)=>I σ H
 |(.ret v,σ,H)=>K (.ret v,σ,H)
inductive Turn(nx:fk)(T:V→aN→ao→Option aN)(B:b9)(i:Nat)(σ:aN)(H:ao)(bD:Out→Prop):Prop
 |mk' (v:V) (b3:aN):nx i H=some (some v)→T v σ H=some b3→Run (B b3 H) bD→Turn nx T B i σ H bD
theorem Turn.mk{nx:fk}{T:V→aN→ao→Option aN}{b3:aN}{bD:Out→Prop}(ag:nx i H=some (some v))(ah:T v σ H=some b3)(aE:Run (B b3 H) bD):Turn nx T B i σ H bD:=⟨v,b3,ag,ah,aE⟩
theorem ip.mono{I:aN→ao→Prop}{bD:Out→Prop}(k:∀v σ H,K (.ret v,σ,H)→bD (.ret v,σ,H)):∀r,ip I K r→ip I bD r
 |(.next,_,_),h=>h
 |(.ret _,_,_),h=>k _ _ _ h
theorem ez{I:aN→ao→Prop}(h:I σ H):Run (aI σ H) (ip I K):=⟨_,rfl,h⟩
theorem Jq{nx:fk}{T:V→aN→ao→Option aN}(n:Nat)(Inv:Nat→aN→ao→Prop)
 (step:∀i σ H,i<n→Inv i σ H→Turn nx T B i σ H (ip (Inv (i+1)) K))
 (fin:∀σ H,Inv n σ H→nx n H=some none∧K (.next,σ,H)):∀(k i:Nat) (fuel:Nat) (σ:aN) (H:ao),i+k=n→k<fuel→Inv i σ H→Run (vN nx T B fuel i σ H) K
 |_,_,0,_,_,_,hf,_=>absurd hf (Nat.not_lt_zero _)
 |0,i,f+1,σ,H,hi,hf,h=>by
  have hi:i=n:=hi
  subst hi
  exact gu (fin σ H h).1 ⟨_,rfl,(fin σ H h).2⟩
 |k+1,i,f+1,σ,H,hi,hf,h=>by
  obtain⟨v,b3,ag,ah,⟨a3,gy,aG⟩,aE,a7⟩:=step i σ H (hi▸Nat.lt_add_of_pos_right (Nat.succ_pos k)) h
  cases a3 with
  |next=>
   exact gu ag (gu ah (gu aE (Jq n Inv step fin k (i+1) f gy aG (by rw[Nat.add_right_comm];exact hi) (Nat.lt_of_succ_lt_succ hf) a7)))
  |ret v=>exact gu ag (gu ah (gu aE ⟨_,rfl,a7⟩))
theorem fB{it:fH}{nx:fk}{T:V→aN→ao→Option aN}(hit:it σ H=some (nx,H1))(n:Nat)(hf:n≤1000000)(Inv:Nat→aN→ao→Prop)(h0:Inv 0 σ H1)
 (step:∀i σ H,i<n→Inv i σ H→Turn nx T B i σ H (ip (Inv (i+1)) K))
 (fin:∀σ H,Inv n σ H→nx n H=some none) (k:∀σ H,Inv n σ H→Run (R σ H) K):Run (aq (dz it T B) R σ H) K:=
 nC (gu hit (Jq n Inv (fun i σ H hi h=>by
  obtain⟨v,b3,ag,ah,aE⟩:=step i σ H hi h
  exact⟨v,b3,ag,ah,aE.mono (ip.mono fun _ _ _ q=>q)⟩) (fun σ H h=>⟨fin σ H h,k σ H h⟩) n 0 _ σ H1 (Nat.zero_add n) (AO hf) h0))
noncomputable def sS(T:cK)(B:b9)(Inv:Nat→aN→ao→Prop)(K:Out→Prop)(m:Nat)(σ:aN)(H:ao):Prop:=
 (∃H1,T σ H=some (false,H1)∧K (.next,σ,H1))∨∃H1,T σ H=some (true,H1)∧Run (B σ H1) (ip (fun gy aG=>∃k,k<m∧Inv k gy aG) K)
theorem sS.stop{T:cK}{Inv:Nat→aN→ao→Prop}{m:Nat}(h:T σ H=some (false,H1))(k:K (.next,σ,H1)):sS T B Inv K m σ H:= .inl ⟨_,h,k⟩
theorem sS.go{T:cK}{Inv:Nat→aN→ao→Prop}{m:Nat}(h:T σ H=some (true,H1))(k:Run (B σ H1) (ip (fun gy aG=>∃k,k<m∧Inv k gy aG) K)):sS T B Inv K m σ H:= .inr ⟨_,h,k⟩
theorem Bx{T:cK}(Inv:Nat→aN→ao→Prop)(step:∀m σ H,Inv m σ H→sS T B Inv K m σ H):∀(f m:Nat) (σ:aN) (H:ao),m<f→Inv m σ H→Run (vS T B f σ H) K
 |0,_,_,_,hf,_=>absurd hf (Nat.not_lt_zero _)
 |f+1,m,σ,H,hf,h=>by
  rcases step m σ H h with⟨H1,ag,k⟩|⟨H1,ag,⟨a3,gy,aG⟩,ah,aE⟩
  ·exact gu ag ⟨_,rfl,k⟩
  ·refine gu ag (gu ah ?_)
   cases a3 with
   |next=>obtain⟨k,aB,aE⟩:=aE;exact Bx Inv step f k gy aG (Nat.lt_of_lt_of_le aB (Nat.le_of_lt_succ hf)) aE
   |ret v=>exact⟨_,rfl,aE⟩
end
section
variable{H:ao}{l m:Nat}{xs ci:List V}
theorem h'{p:Prop} [Decidable p](h:p):some (decide p)=some true:=by rw[decide_eq_true h]
theorem iA{p:Prop} [Decidable p](h:¬p):some (decide p)=some false:=by rw[decide_eq_false h]
theorem sX{a b c:Int}(h:a+b=c):ik .Add (.int a) (.int b) H=some (.int c,H):=by subst h;rfl
theorem sZ{a b c:Int}(h:a - b=c):ik .Sub (.int a) (.int b) H=some (.int c,H):=by subst h;rfl
theorem l4{x:V}(h:H[l]?=some (.list xs))(hz:xs.length≤1000000):hG [.loc l,x] H=some (.none,H.set l (.list (xs++[x]))):=bi rfl (bi (bm (li h)) (if_pos hz))
theorem kR{F:bz}(h:H[l]?=some (.list xs)):g4 F (.loc l) H=some (F,true):=bm (bm (li h))
theorem sk{lo hi st:Option Int}(h:H[l]?=some (.list xs))(hz:xs.length≤1000)(aY:st≠some 0:=by decide):sm (.loc l) lo hi st H=some (.loc H.length,H++[.list (picks xs lo hi st)]):=(if_neg aY).trans (bi (li h) (if_pos hz))
theorem vF(h:H[l]?=some (.list xs))(ax:H[m]?=some (.list ci))(hz:xs.length+ci.length≤1000000):ik .Add (.loc l) (.loc m) H=some (.loc H.length,H++[.list (xs++ci)]):=bi (li h) (bi (li ax) (if_pos ⟨rfl,hz⟩))
theorem eM{C:Addr}{n:Str}{ps:List (Str×V)}{u:V}(h:H[l]?=some (.aS ps))(e:cH n ps=some u)(bR:kP u=true):gf C n (.ins C l) H=some u:=bi rfl ((if_pos rfl).trans (bi (mt h) (bi e (if_pos bR))))
noncomputable def Ext(H H':ao):Prop:=∀(j:Nat) (m:aM),H[j]?=some m→H'[j]?=some m
theorem Ext.app(X:ao):Ext H (H++X):=fun j m h=>(List.getElem?_append_left (List.getElem?_eq_some_iff.mp h).1).trans h
theorem Ext.trans{H1 aG H3:ao}(a:Ext H1 aG)(b:Ext aG H3):Ext H1 H3:=fun j m h=>b j m (a j m h)
theorem Ext.refl:Ext H H:=fun _ _ h=>h
theorem Ext.len{H H':ao}(h:Ext H H'):H.length≤H'.length:=by
 refine Nat.le_of_not_lt fun q=> ?_
 have:=h _ _ (List.getElem?_eq_getElem q)
 rw[List.getElem?_eq_none (Nat.le_refl _)] at this
 cases this
theorem bP{m:aM}:(H++[m])[H.length]?=some m:=List.getElem?_concat_length
theorem k_{m m':aM}:(H++[m]).set H.length m'=H++[m']:=by rw[List.set_append_right _ _ (Nat.le_refl _),Nat.sub_self];rfl
theorem Bj{i:Nat}{v:V}(h:H[l]?=some (.list xs))(hi:xs[i]?=some v):ul l i H=some (some (.tup [.int i,v])):=(bm (li h)).trans (congrArg some (bm hi))
theorem Bk{i:Nat}(h:H[l]?=some (.list xs))(hi:xs.length≤i):ul l i H=some none:=(bm (li h)).trans (congrArg some (congrArg (Option.map _) (List.getElem?_eq_none hi)))
theorem dJ{i:Nat}{o:Option V}(h:H[l]?=some (.list xs))(hi:xs[i]?=o):i2 l i H=some o:=(bm (li h)).trans (congrArg some hi)
theorem fo(h:H[l]?=some (.list xs)):Bl (.loc l) H=some (i2 l):=bm (li h)
theorem y5{α:Type}{as:List α}{F:α→V}{nx:fk}{qH:aN}{Ti:cK}{De:a0}{j:Nat}{p:α→Bool}{g:α→V}(af:∀i G,Ext H G→nx i G=some (as.map F)[i]?)
 (aH:∀x∈as,∀cJ G,Ext H G→cJ j=some (F x)→(∀y,y≠j→cJ y=qH y)→Ti cJ G=some (p x,G)∧(p x=true→De cJ G=some (g x,G))) (hz:as.length≤1000000):
 ∀(k i f:Nat) (cJ:aN) (ci:List V),i+k=as.length→k<f→ci.length≤i→(∀y,y≠j→cJ y=qH y)→jm nx (cx j) Ti De H.length f i cJ (H++[.list ci])=some (H++[.list (ci++((as.drop i).filter p).map g)])
 |_,_,0,_,_,_,hf,_,_=>absurd hf (Nat.not_lt_zero _)
 |0,i,f+1,cJ,ci,hi,hf,aQ,bg=>by
  have hi:i=as.length:=hi
  rw[List.drop_of_length_le (Nat.le_of_eq hi.symm),List.filter_nil,List.map_nil,List.append_nil]
  exact bi ((af i _ (.app _)).trans (congrArg some (List.getElem?_eq_none (Nat.le_of_eq ((List.length_map _).trans hi.symm))))) rfl
 |k+1,i,f+1,cJ,ci,hi,hf,aQ,bg=>by
  have kA:i<as.length:=hi▸Nat.lt_add_of_pos_right (Nat.succ_pos k)
  have kz:i+1+k=as.length:=by rw[Nat.add_right_comm];exact hi
  have pX:∀y,y≠j→upd cJ j (F as[i]) y=qH y:=fun y aQ=>(if_neg aQ).trans (bg y aQ)
  obtain⟨ag,ah⟩:=aH _ (List.getElem_mem kA) (upd cJ j (F as[i])) (H++[.list ci]) (.app _) (if_pos rfl) pX
  rw[List.drop_eq_getElem_cons kA]
  refine bi ((af i _ (.app _)).trans (congrArg some (List.getElem?_map.trans (bm (List.getElem?_eq_getElem kA))))) (bi rfl (bi ag ?_))
  cases bC:p as[i]with
  |false=>
   rw[List.filter_cons_of_neg (by rw[bC];decide)]
   exact y5 af aH hz k (i+1) f _ ci kz (Nat.lt_of_succ_lt_succ hf) (Nat.le_succ_of_le aQ) pX
  |true=>
   refine bi (ah bC) (bi (li bP) ((if_pos (Nat.le_trans aQ (Nat.le_trans (Nat.le_of_lt kA) hz))).trans ?_))
   rw[k_,List.filter_cons_of_pos bC,List.map_cons,y5 af aH hz k (i+1) f _ _ kz (Nat.lt_of_succ_lt_succ hf) (by rw[List.length_append];exact Nat.succ_le_succ aQ) pX,List.append_assoc]
   rfl
theorem oh{α:Type}{as:List α}{F:α→V}{σ:aN}{nx:fk}{it:fH}{H1:ao}{caps:List (Nat×Nat)}{Ti:cK}{De:a0}{j:Nat}(p:α→Bool)(g:α→V)(hit:it σ H=some (nx,H1))(af:∀i G,Ext H1 G→nx i G=some (as.map F)[i]?)(aU:caps.all (fun p=>(σ p.2).isSome)=true)(hz:as.length≤1000000)
 (aH:∀x∈as,∀cJ G,Ext H1 G→cJ j=some (F x)→(∀y,y≠j→cJ y=hF caps σ y)→Ti cJ G=some (p x,G)∧(p x=true→De cJ G=some (g x,G))):ef caps it (cx j) Ti De σ H=some (.loc H1.length,H1++[.list ((as.filter p).map g)]):=
 bi hit ((if_pos aU).trans (bm (y5 af aH hz as.length 0 kx _ [] (Nat.zero_add _) (AO hz) (Nat.zero_le _) fun _ _=>rfl)))
theorem D5{σ:aN}{nx:fk}{it:fH}{H1 aG:ao}{caps:List (Nat×Nat)}{T:V→aN→ao→Option aN}{Ti:cK}{De:a0}(hit:it σ H=some (nx,H1))(aU:caps.all (fun p=>(σ p.2).isSome)=true)(h:jm nx T Ti De H1.length kx 0 (hF caps σ) (H1++[.list []])=some aG):ef caps it T Ti De σ H=some (.loc H1.length,aG):=bi hit ((if_pos aU).trans (bm h))
theorem qY{m m':aM}{X:ao}:(H++[m]++X).set H.length m'=H++[m']++X:=by
 rw[List.set_append_left _ _ (by rw[List.length_append];exact Nat.lt_succ_self _),k_]
theorem eNew{C:Nat}{F:bz}{as:List V}{H':ao}(h:F (.ins C H.length::as) (H++[.aS []])=some (.none,H')):newD C F as H=some (.ins C H.length,H'):=bi h rfl
theorem qC{x:Str}{v:V}{ps:List (Str×V)}(h:H[l]?=some (.aS ps))(hz:ps.length≤1000):nL (.loc l) (.str x) v H=some (H.set l (.aS (b0 x v ps))):=bi rfl (bi (mt h) (if_pos hz))
theorem D6{σ:aN}{ks:List Str}{bb:List a0}{vs:List V}(h:eH bb σ (H++[.aS []])=some (vs,H++[.aS []])):m4 ks bb σ H=some (.loc H.length,H++[.aS (putAll [] (ks.zip vs))]):=by
 unfold m4
 exact bi h (bi bP (by rw[k_];rfl))
theorem jx{C:Nat}{n:Str}{E:a0}{R:b9}{K:Out→Prop}{σ:aN}{ps:List (Str×V)}{X:ao}{v:V}(aR:E σ (H++[.aS ps]++X)=some (v,H++[.aS ps]++X))(h0:σ 0=some (.ins C H.length))(hz:ps.length≤900)
 (k:Run (R σ (H++[.aS (b0 n v ps)]++X)) K):Run (aq (dF C n (aa 0) E) R σ (H++[.aS ps]++X)) K:=nA aR (ae h0) (Ext.app _ _ _ bP) hz (by rw[qY];exact k)
theorem nB{C:Nat}{n:Str}{E:a0}{R:b9}{K:Out→Prop}{σ:aN}{ps:List (Str×V)}{X:ao}{v:V}{y:aM}(aR:E σ (H++[.aS ps]++X)=some (v,H++[.aS ps]++X++[y]))(h0:σ 0=some (.ins C H.length))(hz:ps.length≤900)
 (k:Run (R σ (H++[.aS (b0 n v ps)]++(X++[y]))) K):Run (aq (dF C n (aa 0) E) R σ (H++[.aS ps]++X)) K:=by
 rw[List.append_assoc (H++[aM.aS ps])] at aR
 exact nA aR (ae h0) (Ext.app _ _ _ bP) hz (by rw[qY];exact k)
theorem GW{m:aM}{X:ao}:(H++[m]++X).length=H.length+(1+X.length):=by rw[List.append_assoc,List.length_append,List.length_append];rfl
noncomputable def dZ(l:Nat)(H H':ao):Prop:=∀(j:Nat) (m:aM),j≠l→H[j]?=some m→H'[j]?=some m
theorem dZ.set{m:aM}:dZ l H (H.set l m):=fun _ _ n h=>(List.getElem?_set_ne (Ne.symm n)).trans h
theorem fQ{m o:aM}(h:H[l]?=some o):(H.set l m)[l]?=some m:=List.getElem?_set_self (List.getElem?_eq_some_iff.mp h).1
theorem jl{x:Str}{ps:List (Str×V)}{o:Option V}(h:H[l]?=some (.aS ps))(e:cH x ps=o):hW .In (.str x) (.loc l) H=some o.isSome:=by
 subst e
 exact bm (mt h)
theorem yQ{x:Str}{ps:List (Str×V)}{o:Option V}(h:H[l]?=some (.aS ps))(e:cH x ps=o):hW .NotIn (.str x) (.loc l) H=some (!o.isSome):=congrArg (Option.map _) (jl h e)
theorem gw{x:Str}{ps:List (Str×V)}{o:Option V}(h:H[l]?=some (.aS ps))(e:cH x ps=o):f5 (.loc l) (.str x) H=o:=bi (mt h) e
theorem uD{F:bz}{ps:List (Str×V)}(h:H[l]?=some (.aS ps)):qm F (.loc l) H=some (F,true):=bm (bm (mt h))
theorem tu{x:Str}{ps:List (Str×V)}{o:Option V}(h:H[l]?=some (.aS ps))(e:cH x ps=o):pD [.loc l, .str x] H=some (o.getD .none,H):=by
 subst e
 exact bi rfl (bi (bm (mt h)) rfl)
theorem jX{C:Nat}{n:Str}{F:bz}{ps:List (Str×V)}(h:H[l]?=some (.aS ps))(e:cH n ps=none):cI C n F (.ins C l) H=some (F,true):=bi rfl ((if_pos rfl).trans (bi (mt h) (if_pos (congrArg Option.isNone e))))
theorem Ext.nG{H':ao}{m:aM}(x:Ext H H')(h:H.length≤l):Ext H (H'.set l m):=fun j o q=>(List.getElem?_set_ne (Nat.ne_of_gt (Nat.lt_of_lt_of_le (List.getElem?_eq_some_iff.mp q).1 h))).trans (x j o q)
theorem KW{k:Int}{v:V}{ps:List (Int×V)}(h:H[l]?=some (.eI ps))(hz:ps.length≤1000):nL (.loc l) (.int k) v H=some (H.set l (.eI (b0 k v ps))):=bi rfl ((congrArg (uM l k v H) h).trans (if_pos hz))
theorem OE{ps:List (Int×V)}(h:H[l]?=some (.eI ps))(hz:ps.length<64):l5 [.loc l] H=some (.loc H.length,H++[.list ((sortI (ps.map (·.1))).map .int)]):=bi rfl (bi rfl (bm ((congrArg (uK H) h).trans (if_pos hz))))
theorem OF{ps:List (Str×V)}{ks:List Str}(h:H[l]?=some (.aS ps))(aB:xK (ps.map (·.1))=some ks):l5 [.loc l] H=some (.loc H.length,H++[.list (ks.map .str)]):=bi rfl (bi rfl (bm ((congrArg (uK H) h).trans (bm aB))))
theorem NA{σ:aN}{ks:List Int}{bb:List a0}{vs:List V}(h:eH bb σ (H++[.eI []])=some (vs,H++[.eI []])):tm ks bb σ H=some (.loc H.length,H++[.eI (putAll [] (ks.zip vs))]):=by
 unfold tm
 exact bi h (bi bP (by rw[k_];rfl))
theorem y6{α:Type}{as:List α}{F:α→V}{nx:fk}{qH:aN}{Ti:cK}{De:a0}{j:Nat}{p:α→Bool}{g:α→V}(af:∀i G,Ext H G→nx i G=some (as.map F)[i]?)
 (aH:∀x∈as,∀cJ G,Ext H G→cJ j=some (F x)→(∀y,y≠j→cJ y=qH y)→∃k7,Ti cJ G=some (p x,k7)∧Ext G k7∧(p x=true→De cJ k7=some (g x,k7))) (hz:as.length≤1000000) {Q:ao→Prop}
 (q:∀G,Ext H G→G[H.length]?=some (.list ((as.filter p).map g))→Q G):
 ∀(k i f:Nat) (cJ:aN) (G:ao),i+k=as.length→k<f→(∀y,y≠j→cJ y=qH y)→Ext H G→G[H.length]?=some (.list (((as.take i).filter p).map g))→Run (jm nx (cx j) Ti De H.length f i cJ G) Q
 |_,_,0,_,_,_,hf,_,_,_=>absurd hf (Nat.not_lt_zero _)
 |0,i,f+1,cJ,G,hi,hf,bg,nO,bH=>by
  have hi:i=as.length:=hi
  refine⟨G,?_,q G nO (by rw[hi,List.take_length] at bH;exact bH)⟩
  exact bi ((af i _ nO).trans (congrArg some (List.getElem?_eq_none (Nat.le_of_eq ((List.length_map _).trans hi.symm))))) rfl
 |k+1,i,f+1,cJ,G,hi,hf,bg,nO,bH=>by
  have kA:i<as.length:=hi▸Nat.lt_add_of_pos_right (Nat.succ_pos k)
  have kz:i+1+k=as.length:=by rw[Nat.add_right_comm];exact hi
  have pX:∀y,y≠j→upd cJ j (F as[i]) y=qH y:=fun y aQ=>(if_neg aQ).trans (bg y aQ)
  obtain⟨k7,ag,Cp,ah⟩:=aH _ (List.getElem_mem kA) (upd cJ j (F as[i])) G nO (if_pos rfl) pX
  have zM:=Cp _ _ bH
  have on:as.take (i+1)=as.take i++[as[i]]:=by rw[List.take_add_one,List.getElem?_eq_getElem kA];rfl
  refine gu ((af i _ nO).trans (congrArg some (List.getElem?_map.trans (bm (List.getElem?_eq_getElem kA))))) (gu rfl (gu ag ?_))
  cases bC:p as[i]with
  |false=>exact y6 af aH hz q k (i+1) f _ k7 kz (Nat.lt_of_succ_lt_succ hf) pX (nO.trans Cp) (by rw[on,List.filter_append,List.filter_cons_of_neg (by rw[bC];decide),List.filter_nil,List.append_nil];exact zM)
  |true=>
   refine gu (ah bC) (gu (li zM) ?_)
   rw[if_pos (Nat.le_trans (Nat.le_of_eq (List.length_map _)) (Nat.le_trans (List.length_filter_le ..) (Nat.le_trans (List.length_take_le' ..) hz)))]
   exact y6 af aH hz q k (i+1) f _ _ kz (Nat.lt_of_succ_lt_succ hf) pX ((nO.trans Cp).nG (Nat.le_refl _)) (by rw[on,List.filter_append,List.filter_cons_of_pos bC,List.filter_nil,List.map_append];exact fQ zM)
theorem UV{α:Type}{as:List α}{F:α→V}{σ:aN}{nx:fk}{it:fH}{H1:ao}{caps:List (Nat×Nat)}{Ti:cK}{De:a0}{j:Nat}{K:V×ao→Prop}(p:α→Bool)(g:α→V)(hit:it σ H=some (nx,H1))(af:∀i G,Ext H1 G→nx i G=some (as.map F)[i]?)(aU:caps.all (fun p=>(σ p.2).isSome)=true)(hz:as.length≤1000000)
 (aH:∀x∈as,∀cJ G,Ext H1 G→cJ j=some (F x)→(∀y,y≠j→cJ y=hF caps σ y)→∃k7,Ti cJ G=some (p x,k7)∧Ext G k7∧(p x=true→De cJ k7=some (g x,k7)))
 (q:∀G,Ext H1 G→G[H1.length]?=some (.list ((as.filter p).map g))→K (.loc H1.length,G)):Run (ef caps it (cx j) Ti De σ H) K:=by
 obtain⟨G,e,k⟩:=y6 (Q:=fun G=>K (.loc H1.length,G)) af aH hz q as.length 0 kx (hF caps σ) (H1++[.list []]) (Nat.zero_add _) (AO hz) (fun _ _=>rfl) (.app _) bP
 exact⟨_,bi hit ((if_pos aU).trans (bm e)),k⟩
theorem Jp{σ:aN}{D:a0}{R:b9}{K:Out→Prop}{H1:ao}(h:D σ H=some (.loc l,H1))(au:H1[l]?=some (.aS [])∨H1[l]?=some (.gd []))(k:Run (R σ H1) K):Run (aq (q_ D) R σ H) K:=oJ (bi h (bi rfl (bi (a:=()) (au.elim (congrArg vU) (congrArg vU)) rfl))) k
theorem KT{i:Nat}{v:V}(hi:xs[i]?=some v)(aD:i<2^60):(if((i:Int)).natAbs<2^60 then(r9 xs.length i).bind fun j=>xs[j]? else none)=some v:=
 (if_pos (show((i:Int)).natAbs<2^60 from aD)).trans (bi ((if_pos (Int.natCast_nonneg _)).trans (if_pos (Int.ofNat_lt.mpr (List.getElem?_eq_some_iff.mp hi).1))) hi)
theorem oS{i:Nat}{v:V}(hi:xs[i]?=some v)(aD:i<2^60):f5 (.tup xs) (.int (i:Int)) H=some v:=KT hi aD
theorem OD{x:V}(h:H[l]?=some (.list (xs++[x])))(hz:(xs++[x]).length≤1000000):zd [.loc l] H=some (x,H.set l (.list xs)):=bi rfl (bi (bm (li h)) ((if_pos hz).trans (by rw[List.getLast?_concat,List.dropLast_concat];rfl)))
theorem sY{a b:Int}(h:b≠0):ik .Mod (.int a) (.int b) H=some (.int (a.fmod b),H):=bi rfl (bm (if_pos h))
theorem qZ{a b:Int}(h:a.natAbs<2^31∧b.natAbs<2^31):ik .Mult (.int a) (.int b) H=some (.int (a*b),H):=bi rfl (bm (if_pos h))
theorem Gb{σ:aN}{D:a0}{H1:ao}{n:Int}(h:D σ H=some (.int n,H1))(hz:n.natAbs<2^60):q' D σ H=some (um (if 0<n then n else 0),H1):=bi h (bm (bi rfl (if_pos hz)))
theorem s9{nx:fk}{T:V→aN→ao→Option aN}{Ti:cK}{De:a0}{f i:Nat}{cJ x6:aN}{v x:V}{H1 aG:ao}(ag:nx i H=some (some v))(ah:T v cJ H=some x6)(aE:Ti x6 H=some (true,H1))(a7:De x6 H1=some (x,aG))(cj:aG[l]?=some (.list xs))(hz:xs.length≤1000000):
 jm nx T Ti De l (f+1) i cJ H=jm nx T Ti De l f (i+1) x6 (aG.set l (.list (xs++[x]))):=bi ag (bi ah (bi aE (bi a7 (bi (li cj) (if_pos hz)))))
theorem yP{nx:fk}{T:V→aN→ao→Option aN}{Ti:cK}{De:a0}{f i:Nat}{cJ:aN}(ag:nx i H=some none):jm nx T Ti De l (f+1) i cJ H=some H:=bi ag rfl
theorem Nz{σ:aN}{ks:List Str}{bb:List a0}{vs:List V}{X:ao}(h:eH bb σ (H++[.aS []])=some (vs,H++[.aS []]++X)):m4 ks bb σ H=some (.loc H.length,H++[.aS (putAll [] (ks.zip vs))]++X):=by
 unfold m4
 exact bi h (bi (Ext.app _ _ _ bP) (by rw[qY];rfl))
noncomputable def h4(n:Nat)(H H':ao):Prop:=∀(j:Nat) (m:aM),n≤j→H[j]?=some m→H'[j]?=some m
theorem h4.trans{n:Nat}{H1 aG H3:ao}(a:h4 n H1 aG)(b:h4 n aG H3):h4 n H1 H3:=fun j m q h=>b j m q (a j m q h)
theorem Ext.toN{n:Nat}{H':ao}(x:Ext H H'):h4 n H H':=fun j m _ h=>x j m h
theorem h4.low{n:Nat}{m:aM}(h:l<n):h4 n H (H.set l m):=fun j o q e=>(List.getElem?_set_ne (Nat.ne_of_lt (Nat.lt_of_lt_of_le h q))).trans e
theorem Hn{m:Int}(h0:0≤m)(ag:m<2147483648):m.natAbs<2^31:=by omega
theorem OC{m:Nat}{ci:List V}(h:H[l]?=some (.list xs))(ax:H[m]?=some (.list ci))(hz:xs.length+ci.length≤1000000):za [.loc l, .loc m] H=some (.none,H.set l (.list (xs++ci))):=bi rfl (bi (bm (li h)) (bi (bm (li ax)) (if_pos hz)))
theorem MF{x:V}{b:Int}(h:H[l]?=some (.list [x]))(h0:0≤b)(ag:b≤1000000):ik .Mult (.loc l) (.int b) H=some (.loc H.length,H++[.list (List.replicate b.toNat x)]):=bi (li h) (bi rfl (if_pos ⟨rfl,h0,ag⟩))
theorem Ext.oR{H':ao}(x:Ext H H'):dZ l H H':=fun j m _ h=>x j m h
theorem dZ.trans{H1 aG H3:ao}(a:dZ l H1 aG)(b:dZ l aG H3):dZ l H1 H3:=fun j m n h=>b j m n (a j m n h)
theorem oL{m:aM}{n:Nat}(h:n≤H.length):n≤(H.set l m).length:=by rw[List.length_set];exact h
theorem Cg{ps:List (List (List Int)×V)}{ks:List (List Int)}(h:H[l]?=some (.gI ps))(aB:rE xs=some ks):nJ (.loc l) (.tup xs) H=some (gk ks ps):=bi rfl (bi rfl ((congrArg (uc xs) h).trans (bm aB)))
theorem W'{v:V}{ps:List (List (List Int)×V)}{ks:List (List Int)}(h:H[l]?=some (.gI ps))(hz:ps.length≤1000000)(aB:rE xs=some ks):nL (.loc l) (.tup xs) v H=some (H.set l (.gI (b0 ks v ps))):=bi rfl ((congrArg (uN l xs v H) h).trans ((if_pos hz).trans (bm aB)))
theorem OG(h:H[l]?=some (.list xs))(hz:xs.length≤1000000):hI [.loc l] H=some (.tup xs,H):=bi rfl (bm (bi (li h) (if_pos hz)))
theorem d5{a b:Nat}{x y:aM}(h:H[a]?=some x)(ax:H[b]?=some y)(n:x≠y):a≠b:=fun e=>n (Option.some.inj (h.symm.trans (e▸ax)))
theorem ew{a:Nat}{x:aM}(h:H[a]?=some x):a<H.length:=(List.getElem?_eq_some_iff.mp h).1
noncomputable def h3(lo:Nat)(H H':ao):Prop:=∀(j:Nat) (m:aM),j<lo→H[j]?=some m→H'[j]?=some m
theorem h3.trans{lo:Nat}{H1 aG H3:ao}(a:h3 lo H1 aG)(b:h3 lo aG H3):h3 lo H1 H3:=fun j m q h=>b j m q (a j m q h)
theorem Ext.qw{lo:Nat}{H':ao}(x:Ext H H'):h3 lo H H':=fun j m _ h=>x j m h
theorem dZ.qw{lo:Nat}{H':ao}(x:dZ l H H')(h:lo≤l):h3 lo H H':=fun j m q e=>x j m (Nat.ne_of_lt (Nat.lt_of_lt_of_le q h)) e
theorem Ext.low{B H':ao}(x:Ext B H)(y:h3 B.length H H'):Ext B H':=fun j m h=>y j m (ew h) (x j m h)
end
inductive Val where
 |i (n:Int)
 |s (x:Str)
 deriving DecidableEq
noncomputable abbrev bh:=Int×Val
noncomputable def mT(a b:bh):Prop:=a.1<b.1∧a.2≠b.2
noncomputable def top:Int:=1114111
noncomputable def Ch:List bh→Prop
 |[]=>True
 |[_]=>True
 |a::b::r=>mT a b∧Ch (b::r)
theorem Ch.b4{a b:bh}{r:List bh}(h:Ch (a::b::r)):mT a b∧Ch (b::r):=h
theorem Ch.append:∀{a b:List bh},Ch (a++b)↔Ch a∧Ch b∧∀x y,a.getLast?=some x→b.head?=some y→mT x y
 |[],b=>by simp[Ch]
 |[x],b=>by
  cases b with
  |nil=>simp[Ch]
  |cons y b=>simp[Ch,and_comm]
 |x::y::a,b=>by
  have:=Ch.append (a:=y::a) (b:=b)
  simp only[List.cons_append,Ch,List.getLast?_cons_cons] at this⊢
  rw[this]
  constructor
  ·rintro⟨ag,ah,aE,a7⟩;exact⟨⟨ag,ah⟩,aE,a7⟩
  ·rintro⟨⟨ag,ah⟩,aE,a7⟩;exact⟨ag,ah,aE,a7⟩
structure Canon(r:List bh):Prop where
 ch:Ch r
 hd:∃v t,r=(0,v)::t
 le:∀x∈r,x.1≤top
noncomputable def cE(r:List bh)(c:Int):Option Val:=((r.filter fun x=>decide (x.1≤c)).getLast?).map (·.2)
theorem jN(c:Int):cE [] c=none:=rfl
theorem rp(a b:List bh)(c:Int):cE (a++b) c=(cE b c).or (cE a c):=by
 unfold cE
 rw[List.filter_append,List.getLast?_append]
 cases (List.filter (fun x=>decide (x.1≤c)) b).getLast?<;>simp
theorem gb(x:bh)(r:List bh)(c:Int):cE (x::r) c=(cE r c).or (if x.1≤c then some x.2 else none):=by
 have:=rp [x] r c
 rw[List.singleton_append] at this
 rw[this]
 congr 1
 unfold cE
 by_cases h:x.1≤c<;>simp[h]
theorem m8{r:List bh}{c:Int}(h:∀x∈r,c<x.1):cE r c=none:=by
 unfold cE
 rw[List.filter_eq_nil_iff.mpr]
 ·rfl
 ·intro x af;have:=h x af;simp;omega
theorem E'{r:List bh}{c:Int}(h:∀x∈r,x.1≤c):cE r c=r.getLast?.map (·.2):=by
 unfold cE
 rw[List.filter_eq_self.mpr]
 intro x af;have:=h x af;simpa using this
noncomputable def cnt(xs:List Int)(n:Int):Nat:=(xs.filter fun x=>decide (x≤n)).length
theorem uB{α:Type}(f:α→Int):∀(xs:List α) (n:Int),(xs.map f).Pairwise (· < ·)→xs.filter (fun x=>decide (f x≤n))=xs.take (xs.filter fun x=>decide (f x≤n)).length
 |[],_,_=>rfl
 |x::xs,n,h=>by
  rw[List.map_cons,List.pairwise_cons] at h
  by_cases af:f x≤n
  ·simp only[List.filter_cons,af,decide_true,if_true,List.length_cons,List.take_succ_cons]
   rw[←uB f xs n h.2]
  ·have:xs.filter (fun x=>decide (f x≤n))=[]:=by
    rw[List.filter_eq_nil_iff]
    intro y aQ
    have:=h.1 (f y) (List.mem_map.mpr ⟨y,aQ,rfl⟩)
    simp;omega
   simp[List.filter_cons,af,this]
theorem xl{α:Type}(f:α→Int):∀(xs:List α) (n:Int),(xs.map f).Pairwise (· < ·)→xs.filter (fun x=>decide (n<f x))=xs.drop (xs.filter fun x=>decide (f x≤n)).length
 |[],_,_=>rfl
 |x::xs,n,h=>by
  rw[List.map_cons,List.pairwise_cons] at h
  by_cases af:f x≤n
  ·have p0:¬n<f x:=by omega
   simp only[List.filter_cons,af,p0,decide_true,decide_false,if_true,List.length_cons,List.drop_succ_cons]
   simpa using xl f xs n h.2
  ·have ag:xs.filter (fun x=>decide (f x≤n))=[]:=by
    rw[List.filter_eq_nil_iff]
    intro y aQ
    have:=h.1 (f y) (List.mem_map.mpr ⟨y,aQ,rfl⟩)
    simp;omega
   have ah:xs.filter (fun x=>decide (n<f x))=xs:=by
    rw[List.filter_eq_self]
    intro y aQ
    have:=h.1 (f y) (List.mem_map.mpr ⟨y,aQ,rfl⟩)
    simp;omega
   have p0:n<f x:=by omega
   simp[List.filter_cons,af,p0,ag,ah]
theorem vJ{r:List bh}(n:Int):cnt (r.map (·.1)) n=(r.filter fun x=>decide (x.1≤n)).length:=by
 unfold cnt
 rw[List.filter_map,List.length_map];rfl
theorem M4(xs:List Int)(n:Int):cnt xs n≤xs.length:=List.length_filter_le ..
theorem M3:∀{xs:List Int} {n:Int},xs.Pairwise (· < ·)→∀{m:Nat} {x:Int},xs[m]?=some x→(x≤n↔m<cnt xs n):=by
 intro xs n h m x hm
 have ax:(xs.map id).Pairwise (· < ·):=by simpa using h
 have ag:=uB id xs n ax
 have ah:=xl id xs n ax
 simp only[id] at ag ah
 constructor
 ·intro af
  refine Classical.byContradiction fun aU=> ?_
  have:(xs.drop (cnt xs n))[m - cnt xs n]?=some x:=by rw[List.getElem?_drop];rw[show cnt xs n+(m - cnt xs n)=m by omega];exact hm
  unfold cnt at this
  rw[←ah] at this
  have:=(List.mem_filter.mp (List.mem_of_getElem? this)).2
  simp at this;omega
 ·intro af
  have:(xs.take (cnt xs n))[m]?=some x:=by rw[List.getElem?_take_of_lt af];exact hm
  unfold cnt at this
  rw[←ag] at this
  have:=(List.mem_filter.mp (List.mem_of_getElem? this)).2
  simpa using this
theorem lg:∀{r:List bh},Ch r→(r.map (·.1)).Pairwise (· < ·)
 |[],_=>by simp
 |[x],_=>by simp
 |x::y::r,h=>by
  have aK:=lg (r:=y::r) h.b4.2
  rw[List.map_cons,List.pairwise_cons]
  refine⟨fun z hz=> ?_,aK⟩
  rw[List.map_cons,List.pairwise_cons] at aK
  rw[List.map_cons] at hz
  rcases List.mem_cons.mp hz with rfl|hz
  ·exact h.b4.1.1
  ·exact Int.lt_trans h.b4.1.1 (aK.1 z hz)
theorem rq{r:List bh}(h:Ch r)(c:Int):0<cnt (r.map (·.1)) c→∃x,r[cnt (r.map (·.1)) c - 1]?=some x∧cE r c=some x.2:=by
 intro aU
 rw[vJ] at aU⊢
 have ag:=uB (·.1) r c (lg h)
 generalize aB:(r.filter fun x=>decide (x.1≤c)).length=k at*
 have hlen:(r.take k).length=k:=by rw[←ag,aB]
 obtain⟨x,af⟩:∃x,(r.take k)[k - 1]?=some x:=⟨_,List.getElem?_eq_getElem (by omega)⟩
 refine⟨x,?_,?_⟩
 ·rw[List.getElem?_take_of_lt (by omega)] at af;exact af
 ·unfold cE
  rw[ag,List.getLast?_eq_getElem?,hlen,af];rfl
theorem Canon.vK{r:List bh}(h:Canon r){c:Int}(aU:0≤c):0<cnt (r.map (·.1)) c:=by
 obtain⟨v,t,rfl⟩:=h.hd
 unfold cnt
 simp[List.filter_cons,aU]
noncomputable def ih(r:List bh)(f l:Int)(v:Val):List bh:=
 if f>l then r else
 let low:=cnt (r.map (·.1)) (f - 1)
 let high:=cnt (r.map (·.1)) (l+1)
 let behind:=(r[high - 1]?).map (·.2)
 r.take low++((if 0<low∧(r[low - 1]?).map (·.2)=some v then []else [(f,v)])++(match behind with|some b=>if l<top∧b≠v then [(l+1,b)]else []|none=>[]))++r.drop high
theorem uniq:∀(a b:List bh) (s:Int),Ch a→Ch b→(∀x∈a,x.1≤top)→(∀x∈b,x.1≤top)→(a.head?.map (·.1)=some s)→(b.head?.map (·.1)=some s)→(∀c,s≤c→c≤top→cE a c=cE b c)→a=b:=by
 have later:∀{x y:bh} {r:List bh},Ch (x::y::r)→∀z∈y::r,x.1<z.1:=by
  intro x y r h z hz
  have:=lg h
  rw[List.map_cons,List.pairwise_cons] at this
  exact this.1 _ (List.mem_map.mpr ⟨z,hz,rfl⟩)
 have first:∀{x:bh} {r:List bh} {c:Int},(∀z∈r,c<z.1)→x.1≤c→cE (x::r) c=some x.2:=by
  intro x r c h af
  rw[gb,m8 h]
  simp[af]
 intro a
 induction a with
 |nil=>intro b s _ _ _ _ h _ _;simp at h
 |cons x a aK=>
  intro b s aP az la a4 F4 z5 b6
  cases b with
  |nil=>simp at z5
  |cons y b=>
   simp only[List.head?_cons,Option.map_some,Option.some.injEq] at F4 z5
   subst F4
   have gt:∀{z:bh} {r:List bh},Ch (z::r)→∀u∈r,z.1<u.1:=by
    intro z r h u bR
    cases r with
    |nil=>cases bR
    |cons w r=>exact later h u bR
   have aR:x.2=y.2:=by
    have ag:=b6 x.1 (Int.le_refl _) (la x (by simp))
    rw[first (gt aP) (Int.le_refl _),first (fun u bR=>by have:=gt az u bR;omega) (by omega)] at ag
    simpa using ag
   have t2:x=y:=Prod.ext z5.symm aR
   subst t2
   congr 1
   cases a with
   |nil=>
    cases b with
    |nil=>rfl
    |cons w b=>
     exfalso
     have hw:=a4 w (by simp)
     have p1:mT x w:=az.b4.1
     have ag:=b6 w.1 (Int.le_of_lt p1.1) hw
     rw[first (by simp) (Int.le_of_lt p1.1),gb,first (gt az.b4.2) (Int.le_refl _)] at ag
     simp at ag;exact p1.2 ag
   |cons z a=>
    have p2:mT x z:=aP.b4.1
    have hz:=la z (by simp)
    cases b with
    |nil=>
     exfalso
     have ag:=b6 z.1 (Int.le_of_lt p2.1) hz
     rw[first (r:=[]) (by simp) (Int.le_of_lt p2.1),gb,first (gt aP.b4.2) (Int.le_refl _)] at ag
     simp at ag;exact p2.2 ag.symm
    |cons w b=>
     have p1:mT x w:=az.b4.1
     have hw:=a4 w (by simp)
     have RB:z.1=w.1:=by
      rcases Int.lt_trichotomy z.1 w.1 with h|h|h
      ·exfalso
       have ag:=b6 z.1 (Int.le_of_lt p2.1) hz
       rw[gb,first (gt aP.b4.2) (Int.le_refl _),first (c:=z.1) (fun u bR=>by
        rcases List.mem_cons.mp bR with rfl|bR
        ·exact h
        ·have:=gt az.b4.2 u bR;omega) (Int.le_of_lt p2.1)] at ag
       simp at ag;exact p2.2 ag.symm
      ·exact h
      ·exfalso
       have ag:=b6 w.1 (Int.le_of_lt p1.1) hw
       rw[gb x (w::b),first (gt az.b4.2) (Int.le_refl _),first (c:=w.1) (fun u bR=>by
        rcases List.mem_cons.mp bR with rfl|bR
        ·exact h
        ·have:=gt aP.b4.2 u bR;omega) (Int.le_of_lt p1.1)] at ag
       simp at ag;exact p1.2 ag
     refine aK (w::b) z.1 aP.b4.2 az.b4.2 (fun u bR=>la u (List.mem_cons_of_mem _ bR)) (fun u bR=>a4 u (List.mem_cons_of_mem _ bR)) rfl (by simp[RB]) fun c ag ah=> ?_
     have aE:=b6 c (by have:=p2.1;omega) ah
     rw[gb,gb x (w::b)] at aE
     have some_of:∀{u:bh} {r:List bh},u.1≤c→∃q,cE (u::r) c=some q:=by
      intro u r bR
      rw[gb]
      cases cE r c with
      |none=>exact⟨u.2,by simp[bR]⟩
      |some q=>exact⟨q,rfl⟩
     obtain⟨bY,ak⟩:=some_of (u:=z) (r:=a) ag
     obtain⟨cM,bW⟩:=some_of (u:=w) (r:=b) (by omega)
     rw[ak,bW] at aE⊢
     simpa using aE
theorem Canon.uniq{a b:List bh}(aP:Canon a)(az:Canon b)(h:∀c,0≤c→c≤top→cE a c=cE b c):a=b:=by
 obtain⟨v,t,rfl⟩:=aP.hd
 obtain⟨u,q,rfl⟩:=az.hd
 exact Mine.uniq _ _ 0 aP.ch az.ch aP.le az.le rfl rfl h
theorem Ch.take{r:List bh}(h:Ch r)(n:Nat):Ch (r.take n):=by
 rw[←List.take_append_drop n r] at h;exact(Ch.append.mp h).1
theorem Ch.drop{r:List bh}(h:Ch r)(n:Nat):Ch (r.drop n):=by
 rw[←List.take_append_drop n r] at h;exact(Ch.append.mp h).2.1
theorem B8{α:Type}{r:List α}{n:Nat}{x:α}(aD:0<n)(h:r[n - 1]?=some x):(r.take n).getLast?=some x:=by
 have au:n - 1<r.length:=(List.getElem?_eq_some_iff.mp h).1
 rw[List.getLast?_eq_getElem?,List.length_take,Nat.min_eq_left (by omega),List.getElem?_take_of_lt (by omega),h]
section
variable{r:List bh}{f l:Int}{v:Val}
theorem Jl(h:Canon r)(h0:0≤f)(hn:f≤l)(au:l≤top):∃(A B M:List bh) (b:Val),ih r f l v=A++M++B∧
 (∀x∈A,x.1<f)∧(∀x∈B,l+1<x.1)∧A=r.filter (fun x=>decide (x.1≤f - 1))∧B=r.filter (fun x=>decide (l+1<x.1))∧Ch A∧Ch B∧cE r (l+1)=some b∧
 (∀z,B.head?=some z→z.2≠b)∧(A=[]→f=0)∧
 ∃h6 M2,M=h6++M2∧((h6=[]∧∃y,A.getLast?=some y∧y.2=v)∨(h6=[(f,v)]∧∀y,A.getLast?=some y→y.2≠v))∧((M2=[]∧(l=top∨b=v))∨(M2=[(l+1,b)]∧l<top∧b≠v)):=by
 have pw:=lg h.ch
 have lu:=uB (·.1) r (f - 1) pw
 have dh:=xl (·.1) r (l+1) pw
 rw[←vJ] at lu dh
 have aH:=h.vK (c:=l+1) (by omega)
 obtain⟨x,af,b6⟩:=rq h.ch (l+1) aH
 refine⟨r.take (cnt (r.map (·.1)) (f - 1)),r.drop (cnt (r.map (·.1)) (l+1)),_,x.2,?_,?_,?_,lu.symm,dh.symm,h.ch.take _,h.ch.drop _,b6,?_,?_,(if 0<cnt (r.map (·.1)) (f - 1)∧(r[cnt (r.map (·.1)) (f - 1) - 1]?).map (·.2)=some v then []else [(f,v)]),
  (if l<top∧x.2≠v then [(l+1,x.2)]else []),rfl,?_,?_⟩
 ·unfold ih
  rw[if_neg (by omega)]
  simp only[af,Option.map_some]
 ·intro y aQ
  rw[←lu] at aQ
  have:=(List.mem_filter.mp aQ).2
  simp at this;omega
 ·intro y aQ
  rw[←dh] at aQ
  have:=(List.mem_filter.mp aQ).2
  simpa using this
 ·intro z hz e
  have aU:=h.ch
  rw[←List.take_append_drop (cnt (r.map (·.1)) (l+1)) r] at aU
  exact((Ch.append.mp aU).2.2 x z (B8 aH af) hz).2 e.symm
 ·intro aD
  refine Classical.byContradiction fun hf=> ?_
  have bC:=h.vK (c:=f - 1) (by omega)
  obtain⟨y,aQ,_⟩:=rq h.ch (f - 1) bC
  have:=B8 bC aQ
  rw[aD] at this;cases this
 ·by_cases wA:0<cnt (r.map (·.1)) (f - 1)
  ·obtain⟨y,aQ,_⟩:=rq h.ch (f - 1) wA
   have FK:=B8 wA aQ
   by_cases aR:y.2=v
   ·left
    rw[if_pos ⟨wA,by rw[aQ];simp[aR]⟩]
    exact⟨rfl,y,FK,aR⟩
   ·right
    rw[if_neg (by rw[aQ];simp[aR])]
    exact⟨rfl,fun z hz=>by rw[FK] at hz;cases hz;exact aR⟩
  ·right
   rw[if_neg (fun q=>wA q.1)]
   refine⟨rfl,fun z hz=> ?_⟩
   have:cnt (r.map (·.1)) (f - 1)=0:=by omega
   rw[this] at hz;simp at hz
 ·by_cases aU:l<top∧x.2≠v
  ·right;rw[if_pos aU];exact⟨rfl,aU⟩
  ·left;rw[if_neg aU]
   refine⟨rfl,?_⟩
   by_cases ag:l<top
   ·right;exact Classical.byContradiction fun q=>aU ⟨ag,q⟩
   ·left;omega
theorem Jj(h:Canon r)(h0:0≤f)(au:l≤top):Canon (ih r f l v):=by
 by_cases hn:f≤l
 case neg=>unfold ih;rw[if_pos (by omega)];exact h
 obtain⟨A,B,M,b,e,a1,dn,bZ,vT,s7,s8,b6,jb,yB,h6,M2,rfl,gH,jt⟩:=Jl (v:=v) h h0 hn au
 rw[e]
 have wZ:∀y,A.getLast?=some y→y.1<f:=fun y aQ=>a1 y (List.mem_of_getLast? aQ)
 have wu:∀y,B.head?=some y→l+1<y.1:=fun y aQ=>dn y (List.mem_of_head? aQ)
 have IX:l=top→B=[]:=by
  intro q
  rw[vT,List.filter_eq_nil_iff]
  intro x af;have:=h.le x af;simp;omega
 have Mu:∀y t,A=y::t→y.1=0:=by
  intro y t q
  obtain⟨u,w,rfl⟩:=h.hd
  rw[q] at bZ
  by_cases bR:(0:Int)≤f - 1
  ·rw[List.filter_cons,if_pos (by simpa using bR)] at bZ;cases bZ;rfl
  ·exfalso
   have:y∈A:=by rw[q];simp
   have ag:=a1 y this
   have ah:y∈(0,u)::w:=by rw[bZ] at q;exact(List.mem_filter.mp (by rw[←bZ];simp)).1
   have pw:=lg h.ch
   rw[List.map_cons,List.pairwise_cons] at pw
   rcases List.mem_cons.mp ah with rfl|ah
   ·simp at ag;omega
   ·have:=pw.1 _ (List.mem_map.mpr ⟨y,ah,rfl⟩);simp at this;omega
 refine⟨?_,?_,?_⟩
 ·rcases gH with⟨rfl,y,aQ,p3⟩|⟨rfl,aQ⟩<;>rcases jt with⟨rfl,hm⟩|⟨rfl,gn,tJ⟩
  ·simp only[List.append_nil,List.nil_append]
   refine Ch.append.mpr ⟨s7,s8,fun p q aH bC=>⟨by have:=wZ p aH;have:=wu q bC;omega,?_⟩⟩
   rw[aQ] at aH;cases aH
   rcases hm with hm|hm
   ·rw[IX hm] at bC;cases bC
   ·rw[p3,←hm];exact fun z=>jb q bC z.symm
  ·simp only[List.nil_append]
   refine Ch.append.mpr ⟨Ch.append.mpr ⟨s7,trivial,fun p q aH bC=> ?_⟩,s8,fun p q aH bC=> ?_⟩
   ·simp at bC;subst bC
    rw[aQ] at aH;cases aH
    exact⟨by have:=wZ _ aQ;show _<l+1;omega,by rw[p3];exact fun z=>tJ z.symm⟩
   ·simp at aH;subst aH
    exact⟨wu q bC,fun z=>jb q bC z.symm⟩
  ·simp only[List.append_nil]
   refine Ch.append.mpr ⟨Ch.append.mpr ⟨s7,trivial,fun p q aH bC=> ?_⟩,s8,fun p q aH bC=> ?_⟩
   ·simp at bC;subst bC
    exact⟨wZ _ aH,aQ _ aH⟩
   ·simp at aH;subst aH
    refine⟨by have:=wu q bC;show f<_;omega,?_⟩
    rcases hm with hm|hm
    ·rw[IX hm] at bC;cases bC
    ·show v≠_;rw[←hm];exact fun z=>jb q bC z.symm
  ·refine Ch.append.mpr ⟨Ch.append.mpr ⟨s7,⟨⟨by show f<l+1;omega,fun z=>tJ z.symm⟩,trivial⟩,fun p q aH bC=> ?_⟩,s8,fun p q aH bC=> ?_⟩
   ·simp at bC;subst bC
    exact⟨wZ _ aH,aQ _ aH⟩
   ·simp at aH;subst aH
    exact⟨wu q bC,fun z=>jb q bC z.symm⟩
 ·cases lu:A with
  |cons y t=>exact⟨y.2,t++(h6++M2)++B,by rw[show y=(0,y.2)from Prod.ext (Mu y t lu) rfl];rfl⟩
  |nil=>
   have hf:=yB lu
   subst hf
   rcases gH with⟨rfl,y,aQ,p3⟩|⟨rfl,aQ⟩
   ·rw[lu] at aQ;cases aQ
   ·exact⟨_,_,rfl⟩
 ·intro x af
  rcases List.mem_append.mp af with af|af
  ·rcases List.mem_append.mp af with af|af
   ·rw[bZ] at af;exact h.le x (List.mem_filter.mp af).1
   ·rcases List.mem_append.mp af with af|af
    ·rcases gH with⟨rfl,_⟩|⟨rfl,_⟩
     ·cases af
     ·simp at af;subst af;show f≤top;omega
    ·rcases jt with⟨rfl,_⟩|⟨rfl,ag,_⟩
     ·cases af
     ·simp at af;subst af;show l+1≤top;omega
  ·rw[vT] at af;exact h.le x (List.mem_filter.mp af).1
theorem UC(h:Canon r)(h0:0≤f)(au:l≤top){c:Int}(aU:0≤c)(Qs:c≤top):cE (ih r f l v) c=if f≤c∧c≤l then some v else cE r c:=by
 by_cases hn:f≤l
 case neg=>unfold ih;rw[if_pos (by omega),if_neg (by omega)]
 obtain⟨A,B,M,b,e,a1,dn,bZ,vT,s7,s8,b6,jb,yB,h6,M2,rfl,gH,jt⟩:=Jl (v:=v) h h0 hn au
 rw[e,rp,rp,rp]
 have EJ:f≤c→cE A c=A.getLast?.map (·.2):=fun q=>E' fun x af=>by have:=a1 x af;omega
 by_cases ag:c<f
 ·rw[if_neg (by omega),m8 (r:=B) (fun x af=>by have:=dn x af;omega)]
  have ak:cE h6 c=none:=by
   rcases gH with⟨rfl,_⟩|⟨rfl,_⟩
   ·rfl
   ·exact m8 (by simpa using ag)
  have bW:cE M2 c=none:=by
   rcases jt with⟨rfl,_⟩|⟨rfl,_⟩
   ·rfl
   ·exact m8 (by simp;omega)
  rw[ak,bW]
  simp only[Option.none_or]
  unfold cE
  rw[bZ,List.filter_filter]
  congr 2
  refine List.filter_congr fun x _=> ?_
  have:(x.1≤c∧x.1≤f - 1)↔x.1≤c:=by omega
  simpa using fun q:x.1≤c=>(by omega:x.1≤f - 1)
 ·by_cases ah:c≤l
  ·rw[if_pos ⟨by omega,ah⟩,m8 (r:=B) (fun x af=>by have:=dn x af;omega)]
   have bW:cE M2 c=none:=by
    rcases jt with⟨rfl,_⟩|⟨rfl,_⟩
    ·rfl
    ·exact m8 (by simp;omega)
   rw[bW]
   simp only[Option.none_or]
   rcases gH with⟨rfl,y,aQ,p3⟩|⟨rfl,_⟩
   ·rw[EJ (by omega),aQ];simp[jN,p3]
   ·rw[gb,jN];have:f≤c:=by omega
    simp[this]
  ·rw[if_neg (by omega)]
   have aZ:cE r c=(cE B c).or (some b):=by
    have Rj:r.filter (fun x=>decide (x.1≤c))=r.filter (fun x=>decide (x.1≤l+1))++B.filter (fun x=>decide (x.1≤c)):=by
     have pw:=lg h.ch
     have t1:=uB (·.1) r (l+1) pw
     have gL:=xl (·.1) r (l+1) pw
     have:r=r.filter (fun x=>decide (x.1≤l+1))++B:=by
      rw[vT,gL,t1]
      conv=>lhs;rw[←List.take_append_drop (r.filter fun x=>decide (x.1≤l+1)).length r]
      congr 1
      rw[←t1]
     conv=>lhs;rw[this]
     rw[List.filter_append,List.filter_filter]
     congr 1
     refine List.filter_congr fun x _=> ?_
     simpa using fun q:x.1≤l+1=>(by omega:x.1≤c)
    have az:(List.filter (fun x=>decide (x.1≤l+1)) r).getLast?.map (·.2)=some b:=b6
    unfold cE
    rw[Rj,List.getLast?_append,←az]
    cases (List.filter (fun x=>decide (x.1≤c)) B).getLast?<;>simp
   rw[aZ]
   congr 1
   rcases jt with⟨rfl,hm⟩|⟨rfl,_,_⟩
   ·have tJ:b=v:=hm.elim (fun q=>by omega) id
    rw[jN,Option.none_or]
    rcases gH with⟨rfl,y,aQ,p3⟩|⟨rfl,_⟩
    ·rw[EJ (by omega),aQ];simp[jN,p3,tJ]
    ·rw[gb,jN];have:f≤c:=by omega
     simp[this,tJ]
   ·rw[gb,jN];have:l+1≤c:=by omega
    simp[this]
theorem UD:(ih r f l v).length≤r.length+2:=by
 unfold ih
 split
 ·omega
 ·rename_i hn
  simp only[List.length_append,List.length_take,List.length_drop]
  have ag:cnt (r.map (·.1)) (f - 1)≤cnt (r.map (·.1)) (l+1):=by
   rw[vJ,vJ]
   have:∀(q:List bh),(q.filter fun x=>decide (x.1≤f - 1)).length≤(q.filter fun x=>decide (x.1≤l+1)).length:=by
    intro q
    induction q with
    |nil=>simp
    |cons x q aK=>
     rw[List.filter_cons,List.filter_cons]
     by_cases a:x.1≤f - 1
     ·have b:x.1≤l+1:=by omega
      rw[if_pos (decide_eq_true a),if_pos (decide_eq_true b)]
      simp only[List.length_cons];omega
     ·rw[if_neg (by simpa using a)]
      split
      ·simp only[List.length_cons];omega
      ·exact aK
   exact this r
  have ah:(if 0<cnt (r.map (·.1)) (f - 1)∧(r[cnt (r.map (·.1)) (f - 1) - 1]?).map (·.2)=some v then([]:List bh)else [(f,v)]).length≤1:=by split<;>simp
  cases (r[cnt (r.map fun x:bh=>x.1) (l+1) - 1]?).map (fun x:bh=>x.2)with
  |none=>simp only[List.length_nil];omega
  |some b=>
   dsimp only
   by_cases az:l<top∧b≠v
   ·rw[if_pos az];simp only[List.length_cons,List.length_nil];omega
   ·rw[if_neg az];simp only[List.length_nil];omega
end
noncomputable def Val.v:Val→V
 | .i n=> .int n
 | .s x=> .str x
theorem Un{α:Type}(xs:List α):Mine.picks xs (some 1) none none=xs.drop 1:=I9 xs 1
theorem Up{α:Type}(xs:List α):Mine.picks xs none (some 4) none=xs.take 4:=Bu xs 4
section
variable{H:ao}
theorem Val.IZ(a:Val):hH [a.v, .st (.type "bool")] H=some (.bool false,H):=by cases a<;>kernel_rfl
set_option tactic.hygienic true in
theorem Val.eqv(a b:Val):vEq H a.v b.v=some (decide (a=b)):=by
 cases a<;>cases b
 ·rename_i n m
  show some (n==m)=_
  by_cases h:n=m
  ·subst h;rw[beq_self_eq_true,decide_eq_true rfl]
  ·rw[beq_eq_false_iff_ne.mpr h,decide_eq_false fun q=>h (Val.i.inj q)]
 ·exact congrArg some (decide_eq_false (fun q=>nomatch q)).symm
 ·exact congrArg some (decide_eq_false (fun q=>nomatch q)).symm
 ·rename_i n m
  show some (n==m)=_
  by_cases h:n=m
  ·subst h;rw[beq_self_eq_true,decide_eq_true rfl]
  ·rw[beq_eq_false_iff_ne.mpr h,decide_eq_false fun q=>h (Val.s.inj q)]
theorem vV(a b:Val):j' [a.v,b.v] H=some (.bool (decide (a=b)),H):=by
 obtain⟨_,e,rfl⟩:Run (j' [a.v,b.v] H) fun p=>p=(.bool (decide (a=b)),H):=by
  refine cu ?_ rfl
  have q:eP .Eq (aa 0) (aa 1) (f_ [a.v,b.v]) H=some (.bool (decide (a=b)),H):=l0 (ae rfl) (ae rfl) (a.eqv b)
  generalize decide (a=b)=t at q⊢
  cases t with
  |false=>exact cN (Ny q) rfl
  |true=>exact cN (tl q (l0 (bf (ak (ae rfl) (ak aF aJ)) a.IZ) (bf (ak (ae rfl) (ak aF aJ)) b.IZ) rfl)) rfl
 exact e
noncomputable def Uk:b9:=(aq (bT 4 (bI .FloorDiv (bI .Add (aa 2) (aa 3)) (aj (.int 2)))) (aq (b8 (bq .LtE (bG (aa 0) (aa 4)) (aa 1)) (aq (bT 2 (bI .Add (aa 4) (aj (.int 1)))) aI) (aq (bT 3 (aa 4)) aI)) aI))
theorem j4{l i:Nat}{xs:List V}{x:V}(h:H[l]?=some (.list xs))(hi:xs[i]?=some x)(aD:i<2^60):f5 (.loc l) (.int (i:Int)) H=some x:=bi (li h) (KT hi aD)
structure CK(l:Nat)(xs:List Int)(n:Int)(H:ao)(m:Nat)(σ:aN)(H':ao)(low high:Nat):Prop where
 h:H'=H
 s0:σ 0=some (.loc l)
 s1:σ 1=some (.int n)
 s2:σ 2=some (.int low)
 s3:σ 3=some (.int high)
 lo:low≤cnt xs n
 hi:cnt xs n≤high
 le:high≤xs.length
 lt:high - low<2^m
theorem half{low high m:Nat}(h:low<high)(q:high - low<2^(m+1)):low≤(low+high) / 2∧(low+high) / 2<high∧high -((low+high) / 2+1)<2^m∧(low+high) / 2 - low<2^m:=by
 rw[Nat.pow_succ] at q
 obtain⟨d,rfl⟩:=Nat.le.dest h
 rw[show low.succ+d - low=d+1 by rw[Nat.succ_add,←Nat.add_succ,Nat.add_sub_cancel_left]] at q
 have e:(low+(low.succ+d)) / 2=low+(d+1) / 2:=by
  rw[Nat.succ_add,←Nat.add_succ,←Nat.add_assoc,←Nat.two_mul,Nat.mul_add_div (by decide)]
 have k:=Nat.div_lt_of_lt_mul (Nat.mul_comm _ _▸q)
 have k1:=Nat.div_lt_self (Nat.succ_pos d) (show 1<2 by decide)
 have k2:=Nat.lt_mul_div_succ (d+1) (show 0<2 by decide)
 rw[e]
 refine⟨Nat.le_add_right _ _,?_,?_,?_⟩
 ·rw[Nat.succ_add,←Nat.add_succ];exact Nat.add_lt_add_left k1 low
 ·rw[Nat.succ_add,←Nat.add_succ,Nat.add_assoc,Nat.add_sub_add_left,Nat.succ_sub_succ]
  refine Nat.lt_of_le_of_lt ?_ k
  exact Nat.sub_le_of_le_add (Nat.two_mul _▸Nat.le_of_lt_succ (Nat.lt_of_succ_lt_succ k2))
 ·rw[Nat.add_sub_cancel_left];exact k
theorem Ul{l:Nat}{xs:List Int}{n:Int}(au:H[l]?=some (.list (xs.map .int)))(pw:xs.Pairwise (· < ·))(af:xs.length<2^60){σ:aN}{low high:Nat}(P:CK l xs n H 60 σ H low high):
 Run (vR (bq .Lt (aa 2) (aa 3)) Uk σ H) fun r=>r.1= .next∧r.2.1 2=some (.int (cnt xs n))∧r.2.2=H:=by
 refine Bx (fun m σ H'=>∃low high,CK l xs n H m σ H' low high) ?_ 64 60 σ H (by decide) ⟨_,_,P⟩
 rintro m σ H' ⟨low,high,P⟩
 obtain⟨rfl,s0,s1,s2,s3,a,b,c,d⟩:=P
 by_cases gn:low<high
 ·refine .go (bV (ae s2) (ae s3) (h' (Int.ofNat_lt.mpr gn))) ?_
  cases m with
  |zero=>omega
  |succ m=>
   obtain⟨gH,jt,rP,S1⟩:=half gn d
   have hm:ik .FloorDiv (.int ((low:Int)+(high:Int))) (.int 2) H'=some (.int (((low+high) / 2:Nat):Int),H'):=by
    show some (V.int (((low:Int)+high).fdiv 2),H')=_
    rw[Int.fdiv_eq_ediv_of_nonneg _ (by decide)];rfl
   generalize (low+high) / 2=k at*
   obtain⟨x,F9⟩:∃x,xs[k]?=some x:=⟨_,List.getElem?_eq_getElem (Nat.lt_of_lt_of_le jt c)⟩
   have aY:=j4 (x:= .int x) au (by rw[List.getElem?_map,F9];rfl) (Nat.lt_trans (Nat.lt_of_lt_of_le jt c) af)
   have aU:=M3 pw F9 (n:=n)
   refine cq (cT (cT (ae s2) (ae s3) rfl) aF hm) ?_
   by_cases wJ:x≤n
   ·exact fs (bV (cm (ae s0) (ae rfl) aY) (ae s1) (h' wJ)) (cq (cT (ae rfl) aF rfl) (gZ ⟨_,rfl,m,Nat.lt_succ_self _,_,_,rfl,s0,s1,rfl,s3,Nat.succ_le_of_lt (aU.mp wJ),b,c,rP⟩))
   ·exact r_ (bV (cm (ae s0) (ae rfl) aY) (ae s1) (iA wJ)) (cq (ae rfl) (gZ ⟨_,rfl,m,Nat.lt_succ_self _,_,_,rfl,s0,s1,s2,rfl,a,Nat.le_of_not_lt fun q=>wJ (aU.mpr q),Nat.le_trans (Nat.le_of_lt jt) c,S1⟩))
 ·refine .stop (bV (ae s2) (ae s3) (iA fun q=>gn (Int.ofNat_lt.mp q))) ⟨rfl,?_,rfl⟩
  show σ 2=_
  rw[s2,Nat.le_antisymm a (Nat.le_trans b (Nat.le_of_not_lt gn))]
theorem pE{l:Nat}{xs:List V}(h:H[l]?=some (.list xs))(hz:xs.length<2^60):iC [.loc l] H=some (.int xs.length,H):=bi rfl (bi rfl (bi (li h) (if_pos hz)))
theorem N7{l:Nat}{xs:List Int}{n:Int}(au:H[l]?=some (.list (xs.map .int)))(pw:xs.Pairwise (· < ·))(af:xs.length<2^60):nX [.loc l, .int n] H=some (.int ((cnt xs n:Int) - 1),H):=by
 have a3:=pE au (List.length_map (as:=xs) V.int▸af)
 rw[List.length_map] at a3
 obtain⟨_,e,rfl⟩:Run (nX [.loc l, .int n] H) fun p=>p=(.int ((cnt xs n:Int) - 1),H):=
  cu (cq aF (cq (bf (ak (ae rfl) aJ) a3) (UW (Ul au pw af ⟨rfl,rfl,rfl,rfl,rfl,Nat.zero_le _,M4 _ _,Nat.le_refl _,af⟩) fun r j=>by
   obtain⟨_,σ,_⟩:=r;obtain⟨rfl,j,rfl⟩:=j
   exact cN (cT (ae j) aF rfl) rfl))) rfl
 exact e
end
structure d3(H:ao)(l a b:Nat)(d:Val)(r:List bh):Prop where
 o:H[l]?=some (.aS [("default",d.v),("starts", .loc a),("values", .loc b)])
 s:H[a]?=some (.list (r.map fun x=> .int x.1))
 v:H[b]?=some (.list (r.map fun x=>x.2.v))
noncomputable def Above(a b n cp hD:Nat):Prop:=∀lo,lo≤a→lo≤b→lo≤n→lo≤cp∧lo≤hD
theorem fO{H:ao}{i:Nat}{m:aM}(h:H[i]?=some m):i<H.length:=(List.getElem?_eq_some_iff.mp h).1
section
variable{H:ao}{l a b:Nat}{d:Val}{r:List bh}
theorem d3.vu(h:d3 H l a b d r):gf 139 "starts" (.ins 139 l) H=some (.loc a):=eM h.o (by kernel_rfl) rfl
theorem d3.vv(h:d3 H l a b d r):gf 139 "values" (.ins 139 l) H=some (.loc b):=eM h.o (by kernel_rfl) rfl
theorem d3.Mt(h:d3 H l a b d r):gf 139 "default" (.ins 139 l) H=some d.v:=eM h.o (by kernel_rfl) (by cases d<;>rfl)
theorem d3.s'(h:d3 H l a b d r):H[a]?=some (.list ((r.map (·.1)).map .int)):=by rw[h.s,List.map_map];rfl
theorem d3.ext{G:ao}(h:d3 H l a b d r)(e:Ext H G):d3 G l a b d r:=⟨e _ _ h.o,e _ _ h.s,e _ _ h.v⟩
theorem d3.I8(h:d3 H l a b d r)(c:Canon r)(aD:r.length<2^60)(n:Int):nX [.loc a, .int n] H=some (.int ((cnt (r.map (·.1)) n:Int) - 1),H):=N7 h.s' (lg c.ch) (by simpa using aD)
theorem Kn{l:Nat}{xs:List V}{x:V}{i:Nat}(h:H[l]?=some (.list xs))(hi:xs[i]?=some x)(aD:i<2^60):f5 (.loc l) (.int (i:Int)) H=some x:=j4 h hi aD
theorem NS(h:d3 H l a b d r)(c:Canon r)(aD:r.length<2^60){n:Int}(h0:0≤n):∃w,cE r n=some w∧u6 [.ins 139 l, .int n] H=some (w.v,H):=by
 have aH:=c.vK h0
 obtain⟨x,af,b6⟩:=rq c.ch n aH
 have aY:=j4 (x:=x.2.v) h.v (by rw[List.getElem?_map,af];rfl) (Nat.lt_trans (List.getElem?_eq_some_iff.mp af).1 aD)
 rw[Int.natCast_sub aH] at aY
 obtain⟨_,e,rfl⟩:Run (u6 [.ins 139 l, .int n] H) fun p=>p=(x.2.v,H):=cu (cN (cm (bZ (ae rfl) h.vv) (bf (ak (bZ (ae rfl) h.vu) (ak (ae rfl) aJ)) (h.I8 c aD n)) aY) rfl) rfl
 exact⟨x.2,b6,e⟩
end
section
variable{H:ao}{l m:Nat}{xs ci:List V}
theorem DG{σ:aN}{D Y:a0}{lo hi a y i j:Nat}(cL:∀G,Ext H G→D σ G=some (.loc a,G))(Qe:∀G,Y σ G=some (.loc y,G))(aP:H[a]?=some (.list xs))(aQ:H[y]?=some (.list ci))(kz:σ i=some (.int lo))(bM:σ j=some (.int hi))(af:xs.length≤1000)(hz:ci.length≤1000){R:a0}(pN:R=bI .Add (bI .Add (eX D none (some (aa i)) none) Y) (eX D (some (aa j)) none none)):
 ∃b H',R σ H=some (.loc b,H')∧H'[b]?=some (.list (xs.take lo++ci++xs.drop hi))∧H.length≤b∧Ext H H':=by
 subst pN
 have Li:=Nat.add_le_add (Nat.le_trans (List.length_take_le' lo xs) af) hz
 have kX:=Nat.le_trans Li (show 1000+1000≤1000000 by decide)
 have ja:(xs.take lo++ci).length+(xs.drop hi).length≤1000000:=by
  rw[List.length_append,List.length_drop]
  exact Nat.le_trans (Nat.add_le_add Li (Nat.le_trans (Nat.sub_le ..) af)) (show 1000+1000+1000≤1000000 by decide)
 have g1:(H++[aM.list (xs.take lo)])[H.length]?=_:=bP
 have a6:Ext H (H++[aM.list (xs.take lo)]):= .app _
 have bY:=sk (lo:=none) (hi:=some (lo:Int)) (st:=none) aP af
 rw[Bu] at bY
 generalize H++[aM.list (xs.take lo)]=H1 at*
 have cM:=vF g1 (a6 _ _ aQ) kX
 have g2:(H1++[aM.list (xs.take lo++ci)])[H1.length]?=_:=bP
 have bj:Ext H (H1++[aM.list (xs.take lo++ci)]):=a6.trans (.app _)
 generalize X1:H1++[aM.list (xs.take lo++ci)]=aG at*
 have eE:=sk (lo:=some (hi:Int)) (hi:=none) (st:=none) (bj _ _ aP) af
 rw[I9] at eE
 have g3:(aG++[aM.list (xs.drop hi)])[aG.length]?=_:=bP
 have fY:=vF (Ext.app [aM.list (xs.drop hi)] _ _ g2) g3 ja
 have cc:=bj.trans (.app [aM.list (xs.drop hi)])
 exact⟨_,_,cT (cT (l2 (cL _ .refl) gR (l1 (ae kz)) gR bY) (Qe _) cM) (l2 (cL _ bj) (l1 (ae bM)) gR gR eE) fY,bP,cc.len,cc.trans (.app _)⟩
end
section
variable{H:ao}{l a b:Nat}{d:Val}{r:List bh}
theorem Eg(h:d3 H l a b d r)(c:Canon r)(aD:r.length<2^60){σ:aN}{D:a0}{n:Int}(aY:σ 0=some (.ins 139 l))(cL:D σ H=some (.int n,H)):
 bI .Add (aO nX [bp 139 "starts" (aa 0),D]) (aj (.int 1)) σ H=some (.int (cnt (r.map (·.1)) n:Int),H):=
 cT (bf (ak (bZ (ae aY) h.vu) (ak cL aJ)) (h.I8 c aD n)) aF (sX (Int.sub_add_cancel _ _))
structure n5(H d0:ao)(p q:Nat)(S:List bh):Prop where
 s:d0[p]?=some (.list (S.map fun x=> .int x.1))
 v:d0[q]?=some (.list (S.map fun x=>x.2.v))
 e:Ext H d0
 mi:H.length≤p
 hr:H.length≤q
noncomputable def r8(r:List bh)(la:Int)(v:Val)(x:bh):List bh:=if la<top∧x.2≠v then [(la+1,x.2)]else []
theorem n5.set{H d0:ao}{p q:Nat}{S T:List bh}(P:n5 H d0 p q S)(pW:p≠q):n5 H ((d0.set p (.list (T.map fun x=> .int x.1))).set q (.list (T.map fun x=>x.2.v))) p q T:=
 ⟨by rw[List.getElem?_set_ne (Ne.symm pW),List.getElem?_set_self (fO P.s)],by rw[List.getElem?_set_self (by rw[List.length_set];exact fO P.v)],fun j m bM=>by
  have:=fO bM
  rw[List.getElem?_set_ne (fun q=>by have:=P.hr;omega),List.getElem?_set_ne (fun q=>by have:=P.mi;omega)];exact P.e j m bM,P.mi,P.hr⟩
theorem Uy(h:d3 H l a b d r){σ:aN}{fj:ao}{la:Int}{x:bh}{v:Val}{f:Int}{p q:Nat}(pW:p≠q)(P:n5 H fj p q [(f,v)])(s2:σ 2=some (.int la))(s3:σ 3=some v.v)(eA:σ 6=some x.2.v)(hN:σ 7=some (.loc p))(nF:σ 8=some (.loc q)){R:b9}{K:Out→Prop}
 (k:∀d0,n5 H d0 p q ((f,v)::r8 r la v x)→Run (R σ d0) K):
 Run (aq (b8 (ei [(bq .Lt (aa 2) (aj (.int 1114111))),(po (fx (aO j' [(aa 6),(aa 3)])))]) (aq (c8 (b5 (g4 hG) (aa 7) [(bI .Add (aa 2) (aj (.int 1)))])) (aq (c8 (b5 (g4 hG) (aa 8) [(aa 6)])) aI)) aI) R σ fj) K:=by
 by_cases ha:la<1114111
 ·have lk:=bf (F:=j') (ak (ae eA) (ak (ae s3) aJ)) (vV (H:=fj) x.2 v)
  by_cases q5:x.2=v
  ·refine c6 (g5 (bV (ae s2) aF (h' ha)) (fE (H1:=fj) (xP (b:=true) (iL (by rw[lk,decide_eq_true q5]))))) (k _ ?_)
   unfold r8;rw[if_neg fun q=>q.2 q5];exact P
  ·refine fs (g5 (bV (ae s2) aF (h' ha)) (g5 (xP (b:=false) (iL (by rw[lk,decide_eq_false q5]))) sh)) ?_
   refine ge (dM (ae hN) (kR P.s) (ak (cT (ae s2) aF (sX rfl)) aJ) (l4 P.s (show 1≤1000000 by decide))) (ge (dM (ae nF) (kR (xs:=[v.v]) (by rw[List.getElem?_set_ne pW];exact P.v)) (ak (ae eA) aJ) (l4 (xs:=[v.v]) (by rw[List.getElem?_set_ne pW];exact P.v) (show 1≤1000000 by decide))) (gZ (k _ ?_)))
   unfold r8;rw[if_pos ⟨ha,q5⟩];exact P.set (T:=[(f,v),(la+1,x.2)]) pW
 ·refine c6 (fE (bV (ae s2) aF (iA ha))) (k _ ?_)
  unfold r8;rw[if_neg fun q=>ha q.1];exact P
noncomputable def putL(r:List bh)(f:Int)(v:Val):Bool:=decide (0<cnt (r.map (·.1)) (f - 1)∧(r[cnt (r.map (·.1)) (f - 1) - 1]?).map (·.2)=some v)
theorem Gc{α:Type}{p:Prop} [Decidable p](x y:α):(if decide p=true then x else y)=if p then x else y:=by by_cases h:p<;>simp[h]
theorem Na{α:Type}(b:Bool)(x:α)(M:List α):(if b then M else x::M)=(if b then []else [x])++M:=by cases b<;>rfl
theorem Uz(h:d3 H l a b d r)(c:Canon r)(aD:r.length≤998){σ:aN}{d0:ao}{v:Val}{f:Int}{p q:Nat}{M:List bh}(l9:M.length≤900)(P:n5 H d0 p q ((f,v)::M))(s0:σ 0=some (.ins 139 l))(s3:σ 3=some v.v)(s4:σ 4=some (.int (cnt (r.map (·.1)) (f - 1):Int)))(hN:σ 7=some (.loc p))(nF:σ 8=some (.loc q)){R:b9}{K:Out→Prop}
 (k:∀ba jF p q,ba 0=some (.ins 139 l)→ba 4=σ 4→ba 5=σ 5→ba 7=some (.loc p)→ba 8=some (.loc q)→n5 H jF p q (if putL r f v then M else(f,v)::M)→Run (R ba jF) K):
 Run (aq (b8 (ei [(bq .Gt (aa 4) (aj (.int 0))),(fx (aO j' [(bG (bp 139 "values" (aa 0)) (bI .Sub (aa 4) (aj (.int 1)))),(aa 3)]))]) (aq (kt [7,8] (cQ [(eX (aa 7) (some (aj (.int 1))) none none),(eX (aa 8) (some (aj (.int 1))) none none)])) aI) aI) R σ d0) K:=by
 have A:=(h.ext P.e).vv
 by_cases fa:0<cnt (r.map (·.1)) (f - 1)
 ·obtain⟨y,aQ,_⟩:=rq c.ch (f - 1) fa
  have gn:=(List.getElem?_eq_some_iff.mp aQ).1
  have aR:f5 (.loc b) (.int ((cnt (r.map (·.1)) (f - 1):Int) - 1)) d0=some y.2.v:=by
   have:=Kn (i:=cnt (r.map (·.1)) (f - 1) - 1) (P.e _ _ h.v) (x:=y.2.v) (by rw[List.getElem?_map,aQ];rfl) (by omega)
   rwa[Int.natCast_sub fa] at this
  have lk:=bf (F:=j') (ak (cm (bZ (ae s0) A) (cT (ae s4) aF (sZ rfl)) aR) (ak (ae s3) aJ)) (vV (H:=d0) y.2 v)
  by_cases oc:y.2=v
  ·have e:putL r f v=true:=decide_eq_true ⟨fa,by rw[aQ,Option.map_some,oc]⟩
   rw[e] at k
   refine fs (g5 (bV (ae s4) aF (h' (Int.natCast_pos.mpr fa))) (g5 (iL (by rw[lk,decide_eq_true oc])) sh)) ?_
   have a6:Ext d0 (d0++[aM.list (M.map fun x=> .int x.1)]):= .app _
   have bY:=sk (lo:=some 1) (hi:=none) (st:=none) P.s (show(_::M.map fun x=>V.int x.1).length≤1000 by rw[List.length_cons,List.length_map];omega)
   have cM:=sk (lo:=some 1) (hi:=none) (st:=none) (a6 _ _ P.v) (show(_::M.map fun x=>x.2.v).length≤1000 by rw[List.length_cons,List.length_map];omega)
   rw[Un] at bY cM
   refine qf (et (ak (l2 (ae hN) (l1 aF) gR gR bY) (ak (l2 (ae nF) (l1 aF) gR gR cM) aJ)) (show 2≤1000 by decide)) rfl (gZ (k _ _ _ _ s0 rfl rfl rfl rfl ⟨?_,?_,?_,?_,?_⟩))
   ·exact Ext.app _ _ _ bP
   ·exact bP
   ·exact(P.e.trans a6).trans (.app _)
   ·exact P.e.len
   ·exact(P.e.trans a6).len
  ·have e:putL r f v=false:=decide_eq_false fun q=>by rw[aQ] at q;exact oc (Option.some.inj q.2)
   rw[e] at k
   exact c6 (g5 (bV (ae s4) aF (h' (Int.natCast_pos.mpr fa))) (fE (iL (by rw[lk,decide_eq_false oc])))) (k _ _ _ _ s0 rfl rfl hN nF P)
 ·have e:putL r f v=false:=decide_eq_false fun q=>fa q.1
  rw[e] at k
  exact c6 (fE (bV (ae s4) aF (iA fun q=>fa (Int.natCast_pos.mp q)))) (k _ _ _ _ s0 rfl rfl hN nF P)
theorem UF(h:d3 H l a b d r)(aD:r.length≤998){σ:aN}{jF:ao}{p q s_ cl:Nat}{S:List bh}(tH:S.length≤1000)(P:n5 H jF p q S)(s0:σ 0=some (.ins 139 l))(s4:σ 4=some (.int s_))(s5:σ 5=some (.int cl))(hN:σ 7=some (.loc p))(nF:σ 8=some (.loc q)){K:Out→Prop}
 (k:∀H' cp hD,d3 H' l cp hD d (r.take s_++S++r.drop cl)→H.length≤cp→H.length≤hD→H.length≤H'.length→(∀i,i<H.length→i≠l→H'[i]?=H[i]?)→K (.next,σ,H')):
 Run (aq (dF 139 "starts" (aa 0) (bI .Add (bI .Add (eX (bp 139 "starts" (aa 0)) none (some (aa 4)) none) (aa 7)) (eX (bp 139 "starts" (aa 0)) (some (aa 5)) none none))) (aq (dF 139 "values" (aa 0) (bI .Add (bI .Add (eX (bp 139 "values" (aa 0)) none (some (aa 4)) none) (aa 8)) (eX (bp 139 "values" (aa 0)) (some (aa 5)) none none))) aI) σ jF) K:=by
 have au:=fO h.o
 have X5:a≠l:=fun e=>by have:=h.o;rw[←e,h.s] at this;cases this
 have QW:b≠l:=fun e=>by have:=h.o;rw[←e,h.v] at this;cases this
 have z:∀f:bh→V,(r.map f).length≤1000:=fun f=>by rw[List.length_map];exact Nat.le_trans aD (by decide)
 have Cs:∀f:bh→V,(S.map f).length≤1000:=fun f=>by rw[List.length_map];exact tH
 have pN:∀{G},Ext jF G→d3 G l a b d r:=fun e=>h.ext (P.e.trans e)
 obtain⟨cp,n0,Nx,Pd,AF,j7⟩:=DG (Y:=aa 7) (fun G x=>bZ (ae s0) (pN x).vu) (fun G=>ae hN) (P.e _ _ h.s) P.s s4 s5 (z _) (Cs _) rfl
 refine nA Nx (ae s0) (j7 _ _ (P.e _ _ h.o)) (show 3≤900 by decide) ?_
 have e_:=P.e.len
 have ne:∀{j m},l≠j→jF[j]?=some m→(n0.set l (.aS (b0 "starts" (.loc cp) [("default",d.v),("starts", .loc a),("values", .loc b)])))[j]?=some m:=fun q bM=>by
  rw[List.getElem?_set_ne q];exact j7 _ _ bM
 have AG:=j7.len
 have SP:=Nat.lt_of_lt_of_le (Nat.lt_of_lt_of_le au e_) AG
 have gl:(n0.set l (.aS (b0 "starts" (.loc cp) [("default",d.v),("starts", .loc a),("values", .loc b)])))[l]?=some (.aS [("default",d.v),("starts", .loc cp),("values", .loc b)]):=List.getElem?_set_self SP
 have Pe:(n0.set l (.aS (b0 "starts" (.loc cp) [("default",d.v),("starts", .loc a),("values", .loc b)])))[cp]?=_:=(List.getElem?_set_ne (Nat.ne_of_lt (Nat.lt_of_lt_of_le au (Nat.le_trans e_ AF)))).trans Pd
 have GV:(n0.set l (.aS (b0 "starts" (.loc cp) [("default",d.v),("starts", .loc a),("values", .loc b)]))).length=n0.length:=List.length_set
 generalize n0.set l (.aS (b0 "starts" (.loc cp) [("default",d.v),("starts", .loc a),("values", .loc b)]))=LB at*
 obtain⟨hD,XV,Nw,Pa,Sw,x1⟩:=DG (H:=LB) (Y:=aa 8) (fun G x=>bZ (ae s0) (eM (x _ _ gl) (by kernel_rfl) rfl)) (fun G=>ae nF) (ne QW.symm (P.e _ _ h.v)) (ne (Nat.ne_of_lt (Nat.lt_of_lt_of_le au P.hr)) P.v) s4 s5 (z _) (Cs _) rfl
 have GM:=Nat.le_trans (Nat.le_trans e_ AG) (GV▸x1.len)
 have FL:=Nat.le_trans (Nat.le_trans e_ AG) (GV▸Sw)
 refine nA Nw (ae s0) (x1 _ _ gl) (show 3≤900 by decide) ⟨_,rfl,k _ cp hD ⟨List.getElem?_set_self (Nat.lt_of_lt_of_le au GM),?_,?_⟩ (Nat.le_trans e_ AF) FL ?_ fun i hi kA=> ?_⟩
 ·exact(List.getElem?_set_ne (Nat.ne_of_lt (Nat.lt_of_lt_of_le au (Nat.le_trans e_ AF)))).trans ((x1 _ _ Pe).trans (by rw[List.map_append,List.map_append,List.map_take,List.map_drop]))
 ·exact(List.getElem?_set_ne (Nat.ne_of_lt (Nat.lt_of_lt_of_le au FL))).trans (Pa.trans (by rw[List.map_append,List.map_append,List.map_take,List.map_drop]))
 ·rw[List.length_set];exact GM
 ·rw[List.getElem?_set_ne kA.symm,List.getElem?_eq_getElem hi]
  exact x1 _ _ (ne kA.symm (P.e _ _ (List.getElem?_eq_getElem hi)))
theorem N8(h:d3 H l a b d r)(c:Canon r)(aD:r.length≤998){f la:Int}{v:Val}(h0:0≤f)(bg:la≤top):∃H',x_ [.ins 139 l, .int f, .int la,v.v] H=some (.none,H')∧
 (∃cp hD,d3 H' l cp hD d (ih r f la v)∧Above a b H.length cp hD)∧H.length≤H'.length∧∀i,i<H.length→i≠l→H'[i]?=H[i]?:=by
 refine Run.ex (cu ?_ rfl)
 by_cases hn:f>la
 ·refine fs (bV (ae rfl) (ae rfl) (h' hn)) (UZ ⟨rfl,⟨a,b,?_,fun _ ag ah _=>⟨ag,ah⟩⟩,Nat.le_refl _,fun _ _ _=>rfl⟩)
  unfold ih;rw[if_pos hn];exact h
 have aH:=c.vK (c:=la+1) (by omega)
 obtain⟨x,af,_⟩:=rq c.ch (la+1) aH
 have az:f5 (.loc b) (.int ((cnt (r.map (·.1)) (la+1):Int) - 1)) H=some x.2.v:=by
  have:=Kn (i:=cnt (r.map (·.1)) (la+1) - 1) h.v (x:=x.2.v) (by rw[List.getElem?_map,af];rfl) (by have:=(List.getElem?_eq_some_iff.mp af).1;omega)
  rwa[Int.natCast_sub aH] at this
 have FR:r.length<2^60:=Nat.lt_of_le_of_lt aD (by decide)
 refine c6 (bV (ae rfl) (ae rfl) (iA hn)) (cq (Eg h c FR rfl (cT (ae rfl) aF rfl)) (cq (Eg h c FR rfl (cT (ae rfl) aF rfl)) (cq (cm (bZ (ae rfl) h.vv) (cT (ae rfl) aF rfl) az) ?_)))
 refine qf (et (ak (d4 (ak (ae rfl) aJ) (show 1≤1000 by decide)) (ak (d4 (ak (ae rfl) aJ) (show 1≤1000 by decide)) aJ)) (show 2≤1000 by decide)) rfl ?_
 refine Uy h (p:=H.length) (q:=(H++[aM.list [.int f]]).length) (f:=f) (v:=v) (la:=la) (x:=x) ?_ ⟨Ext.app _ _ _ bP,bP,(Ext.app _).trans (.app _),Nat.le_refl _,(Ext.app _).len⟩ rfl rfl rfl rfl rfl fun d0 P=> ?_
 ·rw[List.length_append];exact Nat.ne_of_lt (Nat.lt_succ_self _)
 have l9:(r8 r la v x).length≤1:=by unfold r8;split<;>simp
 refine Uz h c aD (by omega) P rfl rfl rfl rfl rfl fun ba jF p q s0 s4 s5 hN nF LN=> ?_
 refine UF h aD ?_ LN s0 s4 s5 hN nF fun H' cp hD R Sz en rJ fr=>⟨rfl,⟨cp,hD,?_,fun lo _ _ q=>⟨Nat.le_trans q Sz,Nat.le_trans q en⟩⟩,rJ,fr⟩
 ·split
  ·exact Nat.le_trans l9 (by decide)
  ·exact Nat.le_trans (Nat.succ_le_succ l9) (by decide)
 ·rw[Na] at R
  unfold ih;rw[if_neg hn];dsimp only
  rw[af,Option.map_some]
  unfold putL at R;rw[Gc] at R
  exact R
end
noncomputable abbrev eG:=Int×Int×Val
noncomputable def dj:List bh→List eG
 |[]=>[]
 |[x]=>[(x.1,top,x.2)]
 |x::y::r=>(x.1,y.1 - 1,x.2)::dj (y::r)
noncomputable def cv(x:eG):V:= .tup [.int x.1, .int x.2.1,x.2.2.v]
@[simp]theorem Vb(x:eG)(H:ao):f5 (cv x) (.int 0) H=some (.int x.1):=rfl
@[simp]theorem JA(x:eG)(H:ao):f5 (cv x) (.int 2) H=some x.2.2.v:=rfl
theorem nE:∀r:List bh,(dj r).length=r.length
 |[]=>rfl
 |[_]=>rfl
 |x::y::r=>by simp[dj,nE (y::r)]
theorem JE:∀{r:List bh} {i:Nat} {x:bh},r[i]?=some x→(dj r)[i]?=some (x.1,((r[i+1]?).map fun y=>y.1 - 1).getD top,x.2)
 |[],i,x,h=>by simp at h
 |[z],i,x,h=>by
  cases i with
  |zero=>simp at h;subst h;rfl
  |succ i=>simp at h
 |z::y::r,i,x,h=>by
  cases i with
  |zero=>simp at h;subst h;simp[dj]
  |succ i=>
   simp only[List.getElem?_cons_succ] at h
   have:=JE h
   simp only[dj,List.getElem?_cons_succ]
   exact this
theorem hR{α:Type}{l:List α}{i:Nat}{x:α}(h:l[i]?=some x):l.take (i+1)=l.take i++[x]:=by
 rw[List.take_add_one,h];rfl
section
variable{H:ao}{l a b:Nat}{d:Val}{r:List bh}
noncomputable def endAt(lh:List Int)(i:Nat):Int:=match lh[i]? with
 |some c=>c - 1
 |none=>top
theorem GP{zs:List Int}{a i t5 Ak:Nat}(h:H[a]?=some (.list (zs.map .int)))(aD:zs.length<2^60){σ:aN}(s1:σ Ak=some (.loc a))(s3:σ t5=some (.int i)):
 fb (bq .Lt (bI .Add (aa t5) (aj (.int 1))) (aO iC [aa Ak])) (bI .Sub (bG (aa Ak) (bI .Add (aa t5) (aj (.int 1)))) (aj (.int 1))) (aj (.int 1114111)) σ H=some (.int (endAt zs (i+1)),H):=by
 have eE:bI .Add (aa t5) (aj (.int 1)) σ H=some (.int ((i+1:Nat):Int),H):=cT (ae s3) aF rfl
 have a3:=pE h (by rw[List.length_map];exact aD)
 rw[List.length_map] at a3
 unfold endAt
 by_cases au:i+1<zs.length
 ·rw[List.getElem?_eq_getElem au]
  exact oj (bV eE (bf (ak (ae s1) aJ) a3) (h' (Int.ofNat_lt.mpr au))) (cT (cm (ae s1) eE (j4 h (by rw[List.getElem?_map,List.getElem?_eq_getElem au];rfl) (Nat.lt_trans au aD))) aF rfl)
 ·rw[List.getElem?_eq_none (Nat.le_of_not_lt au)]
  exact lp (bV eE (bf (ak (ae s1) aJ) a3) (iA fun q=>au (Int.ofNat_lt.mp q))) aF
theorem NF{r:List bh}{i:Nat}:endAt (r.map (·.1)) i=((r[i]?).map fun y=>y.1 - 1).getD top:=by
 unfold endAt;rw[List.getElem?_map];cases r[i]?<;>rfl
theorem Ej(h:d3 H l a b d r)(aD:r.length≤1000):u' [.ins 139 l] H=some (.loc H.length,H++[.list ((dj r).map cv)]):=by
 refine(cu (qf (et (ak (bZ (ae rfl) h.vu) (ak (d4 aJ (Nat.zero_le _)) aJ)) (show 2≤1000 by decide)) rfl ?_) rfl).is
 have fm:∀X,d3 (H++X) l a b d r:=fun X=>h.ext (.app X)
 refine fB (Aj (bZ (ae rfl) (fm _).vv) (fm _).v) r.length (Nat.le_trans aD (by decide)) (fun i σ H'=>σ 1=some (.loc a)∧σ 2=some (.loc H.length)∧H'=H++[.list (((dj r).take i).map cv)]) ⟨rfl,rfl,rfl⟩ ?_ ?_ ?_
 ·rintro i σ _ hi ⟨s1,s2,rfl⟩
  have af:r[i]?=some r[i]:=List.getElem?_eq_getElem hi
  refine .mk (Bj (fm _).v (by rw[List.getElem?_map,af];rfl)) rfl ?_
  refine cq (GP (fm _).s' (by rw[List.length_map];exact Nat.lt_of_le_of_lt aD (by decide)) s1 rfl) (ge (dM (ae s2) (kR bP) (ak (et (ak (cm (ae s1) (ae rfl) (j4 (x:= .int r[i].1) (fm _).s (by rw[List.getElem?_map,af];rfl) (Nat.lt_trans hi (Nat.lt_of_le_of_lt aD (by decide))))) (ak (ae rfl) (ak (ae rfl) aJ))) (show 3≤1000 by decide)) aJ)
   (l4 bP (by rw[List.length_map,List.length_take];exact Nat.le_trans (Nat.min_le_left _ _) (Nat.le_trans (Nat.le_of_lt hi) (Nat.le_trans aD (by decide)))))) (ez ⟨s1,s2,?_⟩))
  rw[k_,hR (JE af),List.map_append,NF];rfl
 ·rintro σ _ ⟨s1,s2,rfl⟩
  exact Bk (fm _).v (Nat.le_of_eq (List.length_map _))
 ·rintro σ _ ⟨s1,s2,rfl⟩
  refine cN (ae s2) ?_
  rw[List.take_of_length_le (Nat.le_of_eq (nE r))];rfl
noncomputable def dD(d:Val)(r:List bh):List eG:=(dj r).filter fun x=> !decide (x.2.2=d)
theorem y_(h:d3 H l a b d r)(aD:r.length≤1000):nU [.ins 139 l] H=some (.loc (H.length+1),H++[.list ((dj r).map cv), .list ((dD d r).map cv)]):=by
 have fm:=h.ext (.app [aM.list ((dj r).map cv)])
 refine(cu (cN (oh (as:=dj r) (F:=cv) (fun x=> !decide (x.2.2=d)) cv (el (bf (ak (ae rfl) aJ) (Ej h aD)) (fo bP)) (fun i G e=>dJ (e _ _ bP) rfl) rfl (by rw[nE];exact Nat.le_trans aD (by decide)) fun x _ cJ G e t1 qt=>
  ⟨xP (iL (bf (ak (cm (ae t1) aF (JA x G)) (ak (bZ (ae (qt 3 (by decide))) (fm.ext e).Mt) aJ)) (vV x.2.2 d))),fun _=>ae t1⟩) ?_) rfl).is
 rw[List.length_append,List.append_assoc];rfl
end
section
variable{H:ao}
theorem N0(d:Val):newD 139 sy [d.v] H=some (.ins 139 H.length,H++[.aS [("default",d.v),("starts", .loc (H.length+1)),("values", .loc (H.length+2))], .list [.int 0], .list [d.v]]):=by
 refine eNew (cu (nA (ae rfl) (ae rfl) bP (Nat.zero_le _) ?_) rfl).is
 rw[k_]
 refine nA (d4 (ak aF aJ) (show 1≤1000 by decide)) (ae rfl) (Ext.app _ _ _ bP) (show 1≤900 by decide) ?_
 rw[qY]
 refine nA (d4 (ak (ae rfl) aJ) (show 1≤1000 by decide)) (ae rfl) ((Ext.app _).trans (.app _) _ _ bP) (show 2≤900 by decide) ⟨_,rfl,?_⟩
 rw[List.append_assoc,qY,List.append_assoc]
 show(V.none,_)=_
 rw[List.length_append,List.length_append,List.length_append];kernel_rfl
theorem xm{names:List Str}{v:V}{ps:List (Str×V)}{σ:aN}{De:a0}{R:b9}{K:Out→Prop}{it:fH}(hit:it σ (H++[.aS ps])=some (nt (names.map .str),H++[.aS ps]))(PT:∀σ H,De σ H=some (v,H))(gE:σ 0=some (.loc H.length))(hlen:ps.length+names.length≤1000)
 (k:∀ba,ba 0=some (.loc H.length)→Run (R ba (H++[.aS (names.foldl (fun ps n=>b0 n v ps) ps)])) K):Run (aq (dz it (cx 1) (aq (gA (aa 0) (aa 1) De) aI)) R σ (H++[.aS ps])) K:=by
 refine fB hit names.length (Nat.le_trans (Nat.le_add_left _ _) (Nat.le_trans hlen (by decide))) (fun i σ H'=>σ 0=some (.loc H.length)∧∃q,q=(names.take i).foldl (fun ps n=>b0 n v ps) ps∧q.length≤ps.length+i∧H'=H++[.aS q]) ⟨gE,_,rfl,Nat.le_refl _,rfl⟩ ?_ ?_ ?_
 ·rintro i σ _ hi ⟨ag,q,bC,au,rfl⟩
  have aQ:names[i]?=some names[i]:=List.getElem?_eq_getElem hi
  refine .mk (v:= .str names[i]) (by unfold nt;rw[List.getElem?_map,aQ];rfl) rfl (jW (PT _ _) (ae ag) (ae rfl) (qC bP (Nat.le_trans au (Nat.le_trans (Nat.add_le_add_left (Nat.le_of_lt hi) _) hlen))) (ez ⟨ag,_,?_,Nat.le_trans (l7 _ _ q) (Nat.succ_le_succ au),k_⟩))
  rw[hR aQ,List.foldl_append,←bC];rfl
 ·rintro σ _ ⟨_,_⟩
  unfold nt;rw[List.getElem?_eq_none (Nat.le_of_eq (List.length_map _))]
 ·rintro σ _ ⟨ag,_,rfl,_,rfl⟩
  rw[List.take_length];exact k σ ag
noncomputable def i5:List (Str×V):=[("gc", .str "Cn"),("ccc", .int 0),("bc", .str "L"),("lb", .str "XX"),("ea", .str "N"),("sc", .str "Zzzz"),("jt", .str "U"),("incb", .str "None")]
noncomputable def jo:List (Str×V):=
 b0 "idna" (.tup [.str "disallowed", .tup []]) ((["suc","slc","stc","alias"]:List Str).foldl (fun ps n=>b0 n (.tup []) ps) ((["dm","uc","lc","tc","cf","bm","bpb","scx","nt","nv","name","conf","nfkc_cf"]:List Str).foldl (fun ps n=>b0 n .none ps)
  ((["ex","sd","cased","ci","ep","di","ids","idc","xids","xidc","pat_syn","pat_ws","idst"]:List Str).foldl (fun ps n=>b0 n (.bool false) ps) ((["gcb","wb","sb"]:List Str).foldl (fun ps n=>b0 n (.str "Other") ps) i5))))
theorem NN:x' [] H=some (.loc H.length,H++[.aS jo]):=by
 refine(cu (cq (D6 (ak aF (ak aF (ak aF (ak aF (ak aF (ak aF (ak aF (ak aF aJ))))))))) ?_) rfl).is
 have e:∀xs:List Str,xs.length≤1000→∀bb σ G,eH bb σ G=some (xs.map .str,G)→cP (cQ bb) σ G=some (nt (xs.map .str),G):=fun xs af bb σ G h=>el (et h (by rw[List.length_map];exact af)) rfl
 refine xm (e ["gcb","wb","sb"] (by decide+kernel) _ _ _ (ak aF (ak aF (ak aF aJ)))) (fun _ _=>aF) rfl (by decide+kernel) fun b3 ag=> ?_
 refine xm (e ["ex","sd","cased","ci","ep","di","ids","idc","xids","xidc","pat_syn","pat_ws","idst"] (by decide+kernel) _ _ _ (ak aF (ak aF (ak aF (ak aF (ak aF (ak aF (ak aF (ak aF (ak aF (ak aF (ak aF (ak aF (ak aF aJ)))))))))))))) (fun _ _=>aF) ag (by decide+kernel) fun gy ah=> ?_
 refine xm (e ["dm","uc","lc","tc","cf","bm","bpb","scx","nt","nv","name","conf","nfkc_cf"] (by decide+kernel) _ _ _ (ak aF (ak aF (ak aF (ak aF (ak aF (ak aF (ak aF (ak aF (ak aF (ak aF (ak aF (ak aF (ak aF aJ)))))))))))))) (fun _ _=>aF) ah (by decide+kernel) fun Yx aE=> ?_
 refine xm (e ["suc","slc","stc","alias"] (by decide+kernel) _ _ _ (ak aF (ak aF (ak aF (ak aF aJ))))) (fun _ _=>et aJ (Nat.zero_le _)) aE (by decide+kernel) fun Cw a7=> ?_
 refine jW (et (ak aF (ak (et aJ (Nat.zero_le _)) aJ)) (show 2≤1000 by decide)) (ae a7) aF (qC bP (by decide+kernel)) (cN (ae a7) ?_)
 rw[k_]
 exact congrArg (fun q=>(V.loc H.length,H++[aM.aS q])) (by kernel_rfl)
end
noncomputable def defOf(x:Str):Val:=if x="sc"then .s "Zzzz"else .i 0
noncomputable def ca(x:Str):Prop:=x="sc"∨x="ccc"
theorem ti{x:Str}(h:ca x):cH x jo=some (defOf x).v:=by
 rcases h with rfl|rfl<;>kernel_rfl
noncomputable abbrev cG:=List (Str×Nat×List bh)
noncomputable def e9(ms:cG):List (Str×V):=ms.map fun e=>(e.1, .ins 139 e.2.1)
noncomputable def cY(x:Str):cG→Option (Nat×List bh)
 |[]=>none
 |(y,p)::t=>if y=x then some p else cY x t
theorem mr(x:Str):∀ms:cG,cH x (e9 ms)=(cY x ms).map fun p=> .ins 139 p.1
 |[]=>rfl
 |(y,p)::t=>by
  have aK:=mr x t
  simp only[e9,List.map_cons,cH,cY]
  split
  ·rfl
  ·exact aK
theorem w2{x:Str}{p:Nat×List bh}:∀{ms:cG},cY x ms=some p→(x,p)∈ms
 |(y,q)::t,h=>by
  simp only[cY] at h
  split at h
  ·rename_i e;cases h;subst e;simp
  ·exact List.mem_cons_of_mem _ (w2 h)
theorem G1(x:Str)(a b:cG):cY x (a++b)=(cY x a).or (cY x b):=by
 induction a with
 |nil=>simp[cY]
 |cons e a aK=>
  obtain⟨y,p⟩:=e
  simp only[List.cons_append,cY]
  split
  ·simp
  ·exact aK
noncomputable def lL(x:Str)(r:List bh)(ms:cG):cG:=ms.map fun e=>if e.1=x then(e.1,e.2.1,r)else e
theorem G2(x y:Str)(r:List bh)(ms:cG):cY y (lL x r ms)=if y=x then(cY y ms).map fun p=>(p.1,r)else cY y ms:=by
 induction ms with
 |nil=>simp[lL,cY]
 |cons e ms aK=>
  obtain⟨z,l,q⟩:=e
  unfold lL at aK⊢
  simp only[List.map_cons,cY]
  by_cases kG:z=x
  ·subst kG
   rw[if_pos rfl]
   by_cases nj:z=y
   ·subst nj;simp[cY]
   ·simp only[cY]
    rw[if_neg nj,aK,if_neg (fun e=>nj e.symm),if_neg (fun e=>nj e.symm),if_neg nj]
  ·rw[if_neg kG]
   by_cases nj:z=y
   ·subst nj;simp[cY,kG]
   ·simp only[cY]
    rw[if_neg nj,if_neg nj,aK]
theorem W2(x:Str)(r:List bh)(ms:cG):(lL x r ms).map (·.2.1)=ms.map (·.2.1):=by
 unfold lL;rw[List.map_map]
 refine List.map_congr_left fun e _=> ?_
 show(if e.1=x then(e.1,e.2.1,r)else e).2.1=e.2.1
 split<;>rfl
theorem W3(x:Str)(r:List bh)(ms:cG):e9 (lL x r ms)=e9 ms:=by
 unfold lL e9;rw[List.map_map]
 refine List.map_congr_left fun e _=> ?_
 show((if e.1=x then(e.1,e.2.1,r)else e).1,V.ins 139 (if e.1=x then(e.1,e.2.1,r)else e).2.1)=_
 split<;>rfl
structure gO(lo:Nat)(H:ao)(aV:Nat)(ms:cG)(pr:List (Str×V))(a_:List (List Str×V))(dd m p w:Nat):Prop where
 go:H[aV]?=some (.aS [("defaults", .loc dd),("maps", .loc m),("properties", .loc p),("words", .loc w)])
 gB:H[dd]?=some (.aS jo)
 eQ:H[m]?=some (.aS (e9 ms))
 hj:H[p]?=some (.aS pr)
 gm:H[w]?=some (.gd a_)
 mp:m≠p
 jJ:lo≤aV
 bd:lo≤dd
 bm:lo≤m
 q2:lo≤p
 q4:lo≤w
structure kh(lo N:Nat)(H:ao)(x:Str)(l:Nat)(r:List bh)(a b:Nat):Prop where
 ea:d3 H l a b (defOf x) r
 iz:Canon r
 nn:r.length≤N
 jI:lo≤l
 m1:lo≤a
 hE:lo≤b
structure Dat(lo N:Nat)(H:ao)(aV:Nat)(ms:cG)(pr:List (Str×V))(a_:List (List Str×V)):Prop where
 ex:∃dd m p w,gO lo H aV ms pr a_ dd m p w
 i0:∀e∈ms,ca e.1∧∃a b,kh lo N H e.1 e.2.1 e.2.2 a b
 bk:(ms.map (·.2.1)).Nodup
 ju:(ms.map (·.1)).Nodup
noncomputable def o5(H H':ao):Prop:=∀(i:Nat) (xs:List V),H[i]?=some (aM.list xs)→H'[i]?=some (aM.list xs)
noncomputable def kg(lo hi:Nat)(H H':ao):Prop:=∀i,lo≤i→i<hi→H'[i]?=H[i]?
theorem Ext.keep{H H':ao}{lo:Nat}(x:Ext H H'):kg lo H.length H H':=fun i _ hi=>(x _ _ (List.getElem?_eq_getElem hi)).trans (List.getElem?_eq_getElem hi).symm
theorem Ext.R5{H H':ao}(x:Ext H H'):o5 H H':=fun i _ h=>x i _ h
theorem d3.keep{H H':ao}{l a b:Nat}{d:Val}{r:List bh}(h:d3 H l a b d r)(au:H'[l]?=H[l]?)(aP:H'[a]?=H[a]?)(az:H'[b]?=H[b]?):d3 H' l a b d r:=⟨au.trans h.o,aP.trans h.s,az.trans h.v⟩
theorem Eu:∀{l:List Str},l.Nodup→(∀x∈l,ca x)→l.length≤2
 |[],_,_=>Nat.zero_le _
 |[_],_,_=>Nat.le_succ _
 |[_,_],_,_=>Nat.le_refl _
 |x::y::z::t,h,hw=>by
  have ag:=hw x (.head _);have ah:=hw y (.tail _ (.head _));have aE:=hw z (.tail _ (.tail _ (.head _)))
  rw[List.nodup_cons,List.nodup_cons] at h
  have cZ:x≠y:=fun e=>h.1 (e▸ .head _)
  have c':x≠z:=fun e=>h.1 (e▸ .tail _ (.head _))
  have eS:y≠z:=fun e=>h.2.1 (e▸ .head _)
  exact ag.elim (fun a=>ah.elim (fun b=>absurd (a.trans b.symm) cZ) fun b=>aE.elim (fun c=>absurd (a.trans c.symm) c') fun c=>absurd (b.trans c.symm) eS)
   fun a=>ah.elim (fun b=>aE.elim (fun c=>absurd (b.trans c.symm) eS) fun c=>absurd (a.trans c.symm) c') fun b=>absurd (a.trans b.symm) cZ
section
variable{lo N:Nat}{H H':ao}{aV:Nat}{ms:cG}{pr:List (Str×V)}{a_:List (List Str×V)}
theorem gO.sU{dd m p w:Nat}(E:gO lo H aV ms pr a_ dd m p w):gf 461 "defaults" (.ins 461 aV) H=some (.loc dd):=eM E.go (by kernel_rfl) rfl
theorem gO.iQ{dd m p w:Nat}(E:gO lo H aV ms pr a_ dd m p w):gf 461 "maps" (.ins 461 aV) H=some (.loc m):=eM E.go (by kernel_rfl) rfl
theorem gO.keep{dd m p w:Nat}(E:gO lo H aV ms pr a_ dd m p w)(k:kg lo H.length H H'):gO lo H' aV ms pr a_ dd m p w:=
 ⟨(k _ E.jJ (fO E.go)).trans E.go,(k _ E.bd (fO E.gB)).trans E.gB,(k _ E.bm (fO E.eQ)).trans E.eQ,(k _ E.q2 (fO E.hj)).trans E.hj,(k _ E.q4 (fO E.gm)).trans E.gm,E.mp,E.jJ,E.bd,E.bm,E.q2,E.q4⟩
theorem kh.keep{x:Str}{l a b:Nat}{r:List bh}(M:kh lo N H x l r a b)(k:kg lo H.length H H'):kh lo N H' x l r a b:=
 ⟨M.ea.keep (k _ M.jI (fO M.ea.o)) (k _ M.m1 (fO M.ea.s)) (k _ M.hE (fO M.ea.v)),M.iz,M.nn,M.jI,M.m1,M.hE⟩
theorem Dat.keep(D:Dat lo N H aV ms pr a_)(k:kg lo H.length H H'):Dat lo N H' aV ms pr a_:=
 ⟨match D.ex with|⟨dd,m,p,w,E⟩=>⟨dd,m,p,w,E.keep k⟩,fun e he=>match D.i0 e he with|⟨hw,a,b,M⟩=>⟨hw,a,b,M.keep k⟩,D.bk,D.ju⟩
theorem Dat.at{x:Str}{l:Nat}{r:List bh}(D:Dat lo N H aV ms pr a_)(h:cY x ms=some (l,r)):ca x∧∃a b,kh lo N H x l r a b:=D.i0 _ (w2 h)
theorem gO.vt{dd m p w:Nat}(E:gO lo H aV ms pr a_ dd m p w):gf 461 "properties" (.ins 461 aV) H=some (.loc p):=eM E.go (by kernel_rfl) rfl
theorem gO.Dh{dd m p w:Nat}(E:gO lo H aV ms pr a_ dd m p w):gf 461 "words" (.ins 461 aV) H=some (.loc w):=eM E.go (by kernel_rfl) rfl
theorem Dat.oq(D:Dat lo N H aV ms pr a_):ms.length≤2:=by
 have:=Eu D.ju fun x af=>by
  obtain⟨e,he,rfl⟩:=List.mem_map.mp af
  exact(D.i0 e he).1
 simpa using this
theorem Ed{G:Prop}(k:∀H',newD 461 sv [] H=some (.ins 461 H.length,H')→Dat H.length 1 H' H.length [] [] []→Ext H H'→G):G:=by
 obtain⟨H',e,E,x⟩:∃H',sv [.ins 461 H.length] (H++[.aS []])=some (.none,H')∧gO H.length H' H.length [] [] [] (H.length+1) (H.length+2) (H.length+3) (H.length+4)∧Ext H H':=by
  refine Run.ex (cu ?_ rfl)
  rw[←List.append_nil (H++[aM.aS []])]
  refine nB (bf aJ NN) rfl (Nat.zero_le _) (nB (v:= .loc _) (y:= .aS []) rfl rfl (show 1≤900 by decide) (nB (v:= .loc _) (y:= .aS []) rfl rfl (show 2≤900 by decide) (nB (v:= .loc _) (y:= .gd []) rfl rfl (show 3≤900 by decide) ⟨_,rfl,rfl,?_⟩)))
  simp only[GW]
  have g:∀(o:aM) (X:ao) (i:Nat),(H++[o]++X)[H.length+(1+i)]?=X[i]?:=fun o X i=>by
   rw[List.append_assoc,List.getElem?_append_right (Nat.le_add_right _ _),Nat.add_sub_cancel_left,Nat.add_comm 1];rfl
  exact⟨⟨Ext.app _ _ _ bP,g _ _ 0,g _ _ 1,g _ _ 2,g _ _ 3,Nat.ne_of_lt (Nat.lt_succ_self _),Nat.le_refl _,Nat.le_add_right _ _,Nat.le_add_right _ _,Nat.le_add_right _ _,Nat.le_add_right _ _⟩,(Ext.app _).trans (.app _)⟩
 exact k H' (eNew e) ⟨⟨_,_,_,_,E⟩,fun e he=>(by cases he), .nil, .nil⟩ x
theorem EO{x:Str}{v:V}:∀{q:cG},cY x q=none→b0 x v (e9 q)=e9 q++[(x,v)]
 |[],_=>rfl
 |(y,p)::q,h=>by
  unfold cY at h
  by_cases aQ:y=x
  ·rw[if_pos aQ] at h;cases h
  ·rw[if_neg aQ] at h
   exact(if_neg aQ).trans (congrArg ((y,V.ins 139 p.1):: ·) (EO h))
theorem Ha{e:Str×Nat×List bh}:∀{q:cG},e∈q→cY e.1 q≠none
 |z::q,h=>by
  unfold cY
  split
  ·exact fun e=>nomatch e
  ·rename_i hz
   exact Ha ((List.mem_cons.mp h).resolve_left fun q=>hz (q▸rfl))
theorem G5{q:cG}{k:Str}{v:V}{t:List (Str×V)}(e:e9 q=(k,v)::t):∃l,v= .ins 139 l:=by
 cases q with
 |nil=>cases e
 |cons z q=>cases e;exact⟨_,rfl⟩
theorem D0:jo=(("gc":Str),V.str "Cn")::jo.tail:=by kernel_rfl
noncomputable def ji(o:aM):Prop:=∀q,o≠ .aS (e9 q)
theorem ji.ne{m i:Nat}{o:aM}(hm:H[m]?=some (.aS (e9 ms)))(h:H[i]?=some o)(n:ji o):i≠m:=fun e=>n ms (Option.some.inj (h.symm.trans (e▸hm)))
theorem ji.list{xs:List V}:ji (.list xs):=fun _ e=>nomatch e
theorem ji.fp{ps:List (List Str×V)}:ji (.gd ps):=fun _ e=>nomatch e
theorem ji.hd{k:Str}{v:V}{t:List (Str×V)}(aR:∀l,v≠ .ins 139 l):ji (.aS ((k,v)::t)):=fun q e=>match G5 (aM.aS.inj e).symm with|⟨l,h⟩=>aR l h
theorem ji.y2:ji (.aS jo):=by rw[D0];exact .hd fun _ e=>nomatch e
theorem Val.IY(v:Val)(C l:Nat):v.v≠ .ins C l:=by cases v<;>exact fun e=>nomatch e
theorem d3.Ub{l a b:Nat}{d:Val}{r:List bh}{m:Nat}(R:d3 H l a b d r)(hm:H[m]?=some (.aS (e9 ms))):l≠m∧a≠m∧b≠m:=⟨ji.ne hm R.o (.hd (d.IY 139)),ji.ne hm R.s .list,ji.ne hm R.v .list⟩
theorem Nn{G:Prop}{x:Str}(D:Dat lo N H aV ms [] a_)(af:ca x)(cb:1≤N)(ej:lo≤H.length)(k:∀H' l jV,oW [.ins 461 aV, .str x] H=some (.ins 139 l,H')→Dat lo N H' aV jV [] a_→cY x jV=some (l,((cY x ms).map (·.2)).getD [(0,defOf x)])→
 (∀y,y≠x→cY y jV=cY y ms)→H.length≤H'.length→(∀i,i<lo→H'[i]?=H[i]?)→o5 H H'→G):G:=by
 obtain⟨dd,m,p,w,E⟩:=D.ex
 have hm:=mr x ms
 cases au:cY x ms with
 |some q=>
  obtain⟨l,r⟩:=q
  rw[au] at hm
  exact k H l ms (Run.is (cu (c6 (bV (ae rfl) (bZ (ae rfl) E.iQ) (yQ E.eQ hm)) (cN (cm (bZ (ae rfl) E.iQ) (ae rfl) (gw E.eQ hm)) rfl)) rfl)) D (by rw[au];rfl) (fun _ _=>rfl) (Nat.le_refl _) (fun _ _=>rfl) fun _ _ h=>h
 |none=>
  rw[au] at hm
  obtain⟨H1,bY,a6,LR⟩:∃H1,newD 139 sy [(defOf x).v] H=some (.ins 139 H.length,H1)∧Ext H H1∧d3 H1 H.length (H.length+1) (H.length+2) (defOf x) [(0,defOf x)]:=by
   have g:∀(X:ao) (i:Nat),(H++X)[H.length+i]?=X[i]?:=fun X i=>by rw[List.getElem?_append_right (Nat.le_add_right ..),Nat.add_sub_cancel_left]
   exact⟨_,N0 (defOf x), .app _,g _ 0,g _ 1,g _ 2⟩
  have Q1:b0 x (.ins 139 H.length) (e9 ms)=e9 (ms++[(x,H.length,[(0,defOf x)])]):=by rw[EO au];unfold e9;rw[List.map_append];rfl
  have lx:cY x (ms++[(x,H.length,[(0,defOf x)])])=some (H.length,[(0,defOf x)]):=by rw[G1,au];exact if_pos rfl
  have kB:=mr x (ms++[(x,H.length,[(0,defOf x)])])
  rw[lx] at kB
  have Fc:=fQ (m:= .aS (e9 (ms++[(x,H.length,[(0,defOf x)])]))) (a6 _ _ E.eQ)
  have bj:=dZ.set (l:=m) (H:=H1) (m:= .aS (e9 (ms++[(x,H.length,[(0,defOf x)])])))
  have st:=qC (x:=x) (v:= .ins 139 H.length) (a6 _ _ E.eQ) (show(e9 ms).length≤1000 by unfold e9;rw[List.length_map];exact Nat.le_trans D.oq (by decide))
  rw[Q1] at st
  have rL:(H1.set m (.aS (e9 (ms++[(x,H.length,[(0,defOf x)])])))).length=H1.length:=List.length_set
  generalize H1.set m (.aS (e9 (ms++[(x,H.length,[(0,defOf x)])])))=aG at*
  have cc:∀{i o},H[i]?=some o→ji o→aG[i]?=some o:=fun h n=>bj _ _ (n.ne E.eQ h) (a6 _ _ h)
  have go2:=cc E.go (.hd fun _ e=>nomatch e)
  have mT:∀{l a b d r},d3 H1 l a b d r→d3 aG l a b d r:=fun R=>match R.Ub (a6 _ _ E.eQ)with|⟨cZ,c',eS⟩=>⟨bj _ _ cZ R.o,bj _ _ c' R.s,bj _ _ eS R.v⟩
  have Mv:gf 461 "maps" (.ins 461 aV) aG=some (.loc m):=eM go2 (by kernel_rfl) rfl
  refine k aG H.length (ms++[(x,H.length,[(0,defOf x)])]) (Run.is (cu (fs (bV (ae rfl) (bZ (ae rfl) E.iQ) (yQ E.eQ hm)) (jW (bf (ak (dM (bZ (ae rfl) E.sU) (uD E.gB) (ak (ae rfl) aJ) (tu E.gB (ti af))) aJ) bY) (bZ (ae rfl) (eM (a6 _ _ E.go) (by kernel_rfl) rfl)) (ae rfl) st (gZ (cN (cm (bZ (ae rfl) Mv) (ae rfl) (gw Fc kB)) rfl)))) rfl))
   ⟨⟨dd,m,p,w,go2,cc E.gB .y2,Fc,bj _ _ (Ne.symm E.mp) (a6 _ _ E.hj),cc E.gm .fp,E.mp,E.jJ,E.bd,E.bm,E.q2,E.q4⟩,?_,?_,?_⟩ (by rw[lx,au];rfl) (fun y aQ=> ?_) (rL▸a6.len) (fun i hi=> ?_) fun i xs h=>cc h .list
  ·intro e he
   rcases List.mem_append.mp he with he|he
   ·obtain⟨hw,a,b,M⟩:=D.i0 e he
    exact⟨hw,a,b,mT (M.ea.ext a6),M.iz,M.nn,M.jI,M.m1,M.hE⟩
   ·obtain rfl:=List.mem_singleton.mp he
    exact⟨af,_,_,mT LR,⟨trivial,⟨_,_,rfl⟩,fun x af=>by obtain rfl:=List.mem_singleton.mp af;show(0:Int)≤top;decide⟩,cb,ej,Nat.le_trans ej (Nat.le_add_right ..),Nat.le_trans ej (Nat.le_add_right ..)⟩
  ·rw[List.map_append,List.nodup_append]
   refine⟨D.bk,List.pairwise_singleton _ _,fun i hi j bM=> ?_⟩
   obtain rfl:=List.mem_singleton.mp bM
   obtain⟨e,he,rfl⟩:=List.mem_map.mp hi
   obtain⟨_,a,b,M⟩:=D.i0 e he
   exact Nat.ne_of_lt (fO M.ea.o)
  ·rw[List.map_append,List.nodup_append]
   refine⟨D.ju,List.pairwise_singleton _ _,fun i hi j bM jK=> ?_⟩
   obtain rfl:=List.mem_singleton.mp bM
   obtain⟨e,he,rfl⟩:=List.mem_map.mp hi
   exact Ha he (jK▸au)
  ·rw[G1,show cY y [(x,H.length,[(0,defOf x)])]=none from if_neg (Ne.symm aQ),Option.or_none]
  ·have kz:=Nat.lt_of_lt_of_le hi ej
   exact(bj _ _ (Nat.ne_of_lt (Nat.lt_of_lt_of_le hi E.bm)) (a6 _ _ (List.getElem?_eq_getElem kz))).trans (List.getElem?_eq_getElem kz).symm
end
theorem Bi{α β:Type}{f:α→β}:∀{l:List α},(l.map f).Nodup→∀{a b:α},a∈l→b∈l→f a=f b→a=b
 |[],_,_,_,h,_,_=>by cases h
 |z::l,bk,a,b,aP,az,e=>by
  rw[List.map_cons,List.nodup_cons] at bk
  by_cases ag:a=z
  ·subst ag
   by_cases ah:b=a
   ·exact ah.symm
   ·exact absurd (List.mem_map.mpr ⟨b,(List.mem_cons.mp az).resolve_left ah,e.symm⟩) bk.1
  ·have Fp:=(List.mem_cons.mp aP).resolve_left ag
   by_cases ah:b=z
   ·subst ah
    exact absurd (List.mem_map.mpr ⟨a,Fp,e⟩) bk.1
   ·exact Bi bk.2 Fp ((List.mem_cons.mp az).resolve_left ah) e
noncomputable def bO(ms:cG)(x:Str):Option (List bh):=(cY x ms).map (·.2)
section
variable{lo N:Nat}{H H':ao}{aV:Nat}{ms:cG}{a_:List (List Str×V)}
theorem W4(x:Str)(r:List bh)(ms:cG):(lL x r ms).map (·.1)=ms.map (·.1):=by
 unfold lL;rw[List.map_map]
 refine List.map_congr_left fun e _=> ?_
 show(if e.1=x then(e.1,e.2.1,r)else e).1=e.1
 split<;>rfl
noncomputable def iq(o:aM):Prop:=∀(d:Val) (s v:V),o≠ .aS [("default",d.v),("starts",s),("values",v)]
theorem iq.ne{l a b i:Nat}{d:Val}{r:List bh}{o:aM}(R:d3 H l a b d r)(h:H[i]?=some o)(n:iq o):i≠l:=fun e=>n _ _ _ (Option.some.inj (h.symm.trans (e▸R.o)))
theorem iq.list{xs:List V}:iq (.list xs):=fun _ _ _ e=>nomatch e
theorem iq.fp{ps:List (List Str×V)}:iq (.gd ps):=fun _ _ _ e=>nomatch e
theorem iq.nil:iq (.aS []):=fun _ _ _ e=>nomatch e
theorem iq.e9:iq (.aS (e9 ms)):=fun d _ _ e=>match G5 (aM.aS.inj e)with|⟨l,h⟩=>d.IY _ _ h
theorem iq.key{k:Str}{v:V}{t:List (Str×V)}(aB:k≠"default"):iq (.aS ((k,v)::t)):=fun _ _ _ e=>aB (congrArg Prod.fst (List.cons.inj (aM.aS.inj e)).1)
theorem iq.y2:iq (.aS jo):=by rw[D0];exact .key (by decide+kernel)
theorem Dat.VB{x:Str}{l cp hD N':Nat}{r da:List bh}(D:Dat lo N H aV ms [] a_)(au:cY x ms=some (l,r))(ax:d3 H' l cp hD (defOf x) da)(c:Canon da)(aD:da.length≤N')(cb:N≤N')(m1:lo≤cp)(hE:lo≤hD)
 (fr:dZ l H H'):Dat lo N' H' aV (lL x da ms) [] a_:=by
 obtain⟨dd,m,p,w,E⟩:=D.ex
 obtain⟨af,yB,yL,CG⟩:=D.at au
 have cc:∀{i o},H[i]?=some o→iq o→H'[i]?=some o:=fun h n=>fr _ _ (n.ne CG.ea h) h
 refine⟨⟨dd,m,p,w,cc E.go (.key (by decide+kernel)),cc E.gB .y2,by rw[W3];exact cc E.eQ .e9,cc E.hj .nil,cc E.gm .fp,E.mp,E.jJ,E.bd,E.bm,E.q2,E.q4⟩,fun e he=> ?_,by rw[W2];exact D.bk,by rw[W4];exact D.ju⟩
 unfold lL at he
 obtain⟨z,hz,rfl⟩:=List.mem_map.mp he
 by_cases kG:z.1=x
 ·rw[if_pos kG]
  obtain rfl:z=(x,l,r):=Bi D.ju hz (w2 au) kG
  exact⟨af,cp,hD,ax,c,aD,CG.jI,m1,hE⟩
 ·rw[if_neg kG]
  obtain⟨hw,a,b,M⟩:=D.i0 z hz
  have dB:z.2.1≠l:=fun e=>kG (congrArg Prod.fst (Bi D.bk hz (w2 au) e))
  exact⟨hw,a,b,⟨fr _ _ dB M.ea.o,cc M.ea.s .list,cc M.ea.v .list⟩,M.iz,Nat.le_trans M.nn cb,M.jI,M.m1,M.hE⟩
theorem DY{G:Prop}{x:Str}{f la:Int}{v:Val}(D:Dat lo N H aV ms [] a_)(af:ca x)(cb:1≤N)(pM:N≤998)(ej:lo≤H.length)(h0:0≤f)(bg:la≤top)
 (k:∀H' jV,nT [.ins 461 aV, .str x, .int f, .int la,v.v] H=some (.none,H')→Dat lo (N+2) H' aV jV [] a_→bO jV x=some (ih ((bO ms x).getD [(0,defOf x)]) f la v)→(∀y,y≠x→bO jV y=bO ms y)→H.length≤H'.length→(∀i,i<lo→H'[i]?=H[i]?)→o5 H H'→G):G:=by
 refine Nn D af cb ej fun H1 l mb bY dY zU Rv rK hh R7=> ?_
 obtain⟨_,a,b,M⟩:=dY.at zU
 obtain⟨aG,cM,⟨cp,hD,Rc,rt⟩,rL,gT⟩:=N8 M.ea M.iz (f:=f) (la:=la) (v:=v) (Nat.le_trans M.nn pM) h0 bg
 obtain⟨MG,MK⟩:=rt lo M.m1 M.hE (Nat.le_trans ej rK)
 have Ez:dZ l H1 aG:=fun j m n h=>(gT j (fO h) n).trans h
 have dc:=dY.VB (N':=N+2) zU Rc (Jj M.iz h0 bg) (Nat.le_trans UD (Nat.add_le_add_right M.nn 2)) (Nat.le_add_right _ _) MG MK Ez
 obtain⟨dd,m,p,w,E⟩:=D.ex
 refine k aG _ (Run.is (cu (ge (dM (dM (ae rfl) (jX E.go (by kernel_rfl)) (ak (ae rfl) aJ) bY) (jX M.ea.o (by kernel_rfl)) (ak (ae rfl) (ak (ae rfl) (ak (ae rfl) aJ))) cM) ⟨_,rfl,rfl⟩) rfl)) dc ?_ (fun y aQ=> ?_) (Nat.le_trans rK rL) (fun i hi=> ?_) fun i xs h=> ?_
 ·unfold bO;rw[G2,if_pos rfl,zU];rfl
 ·unfold bO;rw[G2,if_neg aQ,Rv y aQ]
 ·exact(gT i (Nat.lt_of_lt_of_le hi (Nat.le_trans ej rK)) (Nat.ne_of_lt (Nat.lt_of_lt_of_le hi M.jI))).trans (hh i hi)
 ·have ag:=R7 i xs h
  exact Ez _ _ (iq.ne M.ea ag .list) ag
theorem Nl{x:Str}{n:Int}{pr:List (Str×V)}(D:Dat lo N H aV ms pr a_)(af:ca x)(cb:N≤1000)(h0:0≤n):∃w,cE ((bO ms x).getD [(0,defOf x)]) n=some w∧hZ [.ins 461 aV, .str x, .int n] H=some (w.v,H):=by
 obtain⟨dd,m,p,w,E⟩:=D.ex
 have hm:=mr x ms
 unfold bO
 cases au:cY x ms with
 |some q=>
  obtain⟨l,r⟩:=q
  rw[au] at hm
  obtain⟨_,a,b,M⟩:=D.at au
  obtain⟨w,hw,e⟩:=NS M.ea M.iz (Nat.lt_of_le_of_lt (Nat.le_trans M.nn cb) (by decide)) h0
  exact⟨w,hw,Run.is (cu (fs (bV (ae rfl) (bZ (ae rfl) E.iQ) (jl E.eQ hm)) (cN (dM (cm (bZ (ae rfl) E.iQ) (ae rfl) (gw E.eQ hm)) (jX M.ea.o (by kernel_rfl)) (ak (ae rfl) aJ) e) rfl)) rfl)⟩
 |none=>
  rw[au] at hm
  refine⟨defOf x,?_,Run.is (cu (c6 (bV (ae rfl) (bZ (ae rfl) E.iQ) (jl E.eQ hm)) (cN (dM (bZ (ae rfl) E.sU) (uD E.gB) (ak (ae rfl) aJ) (tu E.gB (ti af))) rfl)) rfl)⟩
  show cE [_] n=_
  rw[gb,jN];exact if_pos h0
end
structure bF where
 w:Str
 f:Int
 l:Int
 v:Val
noncomputable def bF.V(p:bF):V:= .tup [.str p.w, .int p.f, .int p.l,p.v.v]
noncomputable def vals(x:Str):List Val:=if x="sc"then [.s "Latn", .s "Grek", .s "Zzzz", .i 7]else [.i 230, .i 9, .i 0, .s "x"]
structure bF.Ok(p:bF):Prop where
 w:ca p.w
 f0:0≤p.f
 wc:p.f≤top
 wY:0≤p.l
 lt:p.l≤top
 v:p.v∈vals p.w
noncomputable def rowsOf(o:Option (List bh))(x:Str):List bh:=o.getD [(0,defOf x)]
noncomputable def qr(g:Str→Option (List bh))(p:bF):Str→Option (List bh):=fun y=>if y=p.w then some (ih (rowsOf (g p.w) p.w) p.f p.l p.v)else g y
noncomputable def made(ps:List bF):Str→Option (List bh):=ps.foldl qr fun _=>none
noncomputable def told(ps:List bF)(x:Str)(c:Int):Val:=ps.foldl (fun t p=>if p.w=x∧p.f≤c∧c≤p.l then p.v else t) (defOf x)
theorem DE(v:Val):Canon [(0,v)]:=⟨trivial,⟨_,_,rfl⟩,fun x af=>by simp at af;subst af;show(0:Int)≤top;decide⟩
theorem zF(v:Val){c:Int}(h:0≤c):cE [(0,v)] c=some v:=by rw[gb];simp[jN,h]
theorem w3(x:Str){c:Int}(h0:0≤c)(bg:c≤top):∀(ps:List bF) (g:Str→Option (List bh)) (t:Val),(∀p∈ps,p.Ok)→Canon (rowsOf (g x) x)→cE (rowsOf (g x) x) c=some t→
 Canon (rowsOf (ps.foldl qr g x) x)∧cE (rowsOf (ps.foldl qr g x) x) c=some (ps.foldl (fun t p=>if p.w=x∧p.f≤c∧c≤p.l then p.v else t) t)
 |[],g,t,_,aU,b6=>⟨aU,b6⟩
 |p::ps,g,t,aH,aU,b6=>by
  have ok:=aH p (by simp)
  rw[List.foldl_cons,List.foldl_cons]
  by_cases af:x=p.w
  ·subst af
   have e:qr g p p.w=some (ih (rowsOf (g p.w) p.w) p.f p.l p.v):=by unfold qr;rw[if_pos rfl]
   refine w3 p.w h0 bg ps _ _ (fun q bC=>aH q (List.mem_cons_of_mem _ bC)) ?_ ?_
   ·rw[e];exact Jj aU ok.f0 ok.lt
   ·rw[e]
    show cE (ih _ _ _ _) c=_
    rw[UC aU ok.f0 ok.lt h0 bg,b6]
    by_cases aZ:p.f≤c∧c≤p.l
    ·rw[if_pos aZ,if_pos ⟨rfl,aZ⟩]
    ·rw[if_neg aZ,if_neg fun q=>aZ q.2]
  ·have e:qr g p x=g x:=by unfold qr;rw[if_neg af]
   refine w3 x h0 bg ps _ _ (fun q bC=>aH q (List.mem_cons_of_mem _ bC)) (by rw[e];exact aU) ?_
   rw[e,b6,if_neg fun q=>af q.1.symm]
theorem rR(x:Str){ps:List bF}(aH:∀p∈ps,p.Ok):Canon (rowsOf (made ps x) x):=(w3 x (Int.le_refl 0) (by decide) ps (fun _=>none) _ aH (DE _) (zF _ (Int.le_refl 0))).1
theorem rS(x:Str){ps:List bF}(aH:∀p∈ps,p.Ok){c:Int}(h0:0≤c)(bg:c≤top):cE (rowsOf (made ps x) x) c=some (told ps x c):=(w3 x h0 bg ps (fun _=>none) _ aH (DE _) (zF _ h0)).2
theorem KB(x:Str)(af:ca x)(c:Int):∀(ps:List bF) (t:Val),(∀p∈ps,p.Ok)→t∈vals x→ps.foldl (fun t p=>if p.w=x∧p.f≤c∧c≤p.l then p.v else t) t∈vals x
 |[],t,_,h=>h
 |p::ps,t,aH,h=>by
  rw[List.foldl_cons]
  refine KB x af c ps _ (fun q bC=>aH q (List.mem_cons_of_mem _ bC)) ?_
  split
  ·rename_i e;rw[←e.1];exact(aH p (by simp)).v
  ·exact h
theorem th{x:Str}(af:ca x):defOf x∈vals x:=by rcases af with rfl|rfl<;>decide
section
variable{H:ao}{l:Nat}{ps:List bF}
structure CH(H:ao)(ps:List bF)(i:Nat)(σ:aN)(H':ao):Prop where
 s1:σ 1=some (.ins 461 H.length)
 ex:∃ms,Dat H.length (1+2*i) H' H.length ms [] []∧∀y,bO ms y=made (ps.take i) y
 x:Ext H H'
theorem Ec{G:Prop}(au:H[l]?=some (.list (ps.map bF.V)))(aH:∀p∈ps,p.Ok)(aD:ps.length≤100)(k:∀H' ms,o0 [.loc l] H=some (.ins 461 H.length,H')→Dat H.length (1+2*ps.length) H' H.length ms [] []→(∀y,bO ms y=made ps y)→Ext H H'→G):G:=by
 refine Ed (H:=H) fun H1 bY dY a6=> ?_
 obtain⟨⟨_,H'⟩,e,rfl,⟨_,⟨ms,D,aZ⟩,x⟩⟩:Run (o0 [.loc l] H) fun p=>p.1= .ins 461 H.length∧CH H ps ps.length (fun _=>some (.ins 461 H.length)) p.2:=by
  refine cu (cq (bf aJ bY) (fB (el (ae rfl) (fo (a6 _ _ au))) ps.length (Nat.le_trans aD (by decide)) (CH H ps) ⟨rfl,⟨_,dY,fun y=>rfl⟩,a6⟩ ?_ ?_ ?_)) rfl
  ·rintro i σ aG hi ⟨s1,⟨ms,dc,aZ⟩,x⟩
   have oA:ps[i]?=some ps[i]:=List.getElem?_eq_getElem hi
   have ok:=aH _ (List.getElem_mem hi)
   refine DY (f:=ps[i].f) (la:=ps[i].l) (v:=ps[i].v) dc ok.w (Nat.le_add_right ..) (Nat.le_trans (Nat.add_le_add_left (Nat.mul_le_mul_left 2 (Nat.le_trans (Nat.le_of_lt hi) aD)) 1) (by decide)) x.len ok.f0 ok.lt fun H3 md eE lP Rd Rx _ O5 _=> ?_
   obtain⟨dd,m,pp,w,E⟩:=dc.ex
   refine .mk (v:=ps[i].V) (dJ (x _ _ au) (by rw[List.getElem?_map,oA];rfl)) rfl (ge (dM (ae s1) (jX E.go (by kernel_rfl)) (ak (ae rfl) (ak (ae rfl) (ak (ae rfl) (ak (ae rfl) aJ)))) eE) (ez ⟨s1,⟨md,lP,fun y=> ?_⟩,fun j m h=>(O5 j (fO h)).trans (x j m h)⟩))
   unfold made;rw[hR oA,List.foldl_append]
   show bO md y=if y=ps[i].w then some (ih (rowsOf (made (ps.take i) ps[i].w) ps[i].w) ps[i].f ps[i].l ps[i].v)else made (ps.take i) y
   by_cases aQ:y=ps[i].w
   ·rw[if_pos aQ,aQ,Rd,aZ];rfl
   ·rw[if_neg aQ,Rx y aQ,aZ]
  ·exact fun σ aG I=>dJ (I.x _ _ au) (List.getElem?_eq_none (Nat.le_of_eq (List.length_map _)))
  ·exact fun σ aG I=>cN (ae I.s1) ⟨rfl,rfl,I.ex,I.x⟩
 exact k H' ms e D (fun y=>by rw[aZ,List.take_length]) x
end
noncomputable def gK:List (Str×V):=[("sc", .tup [.str "Latn", .str "Grek", .str "Zzzz", .int 7]),("ccc", .tup [.int 230, .int 9, .int 0, .str "x"])]
noncomputable def fp:Val→PyData
 | .i n=> .int n
 | .s x=> .str x
theorem xL{x:Str}(h:ca x):cH x gK=some (.tup ((vals x).map Val.v)):=by rcases h with rfl|rfl<;>rfl
theorem B1{x:Str}(h:ca x)(H:ao):f5 (.tup ((vals x).map Val.v)) (.int 2) H=some (defOf x).v:=by rcases h with rfl|rfl<;>rfl
theorem AU{v a b c d:Val}(h:v∈[a,b,c,d]):v=a∨v=b∨v=c∨v=d:=
 (List.mem_cons.mp h).imp id fun h=>(List.mem_cons.mp h).imp id fun h=>(List.mem_cons.mp h).imp id List.mem_singleton.mp
theorem sp{a b c d:Val}{P:Val→Prop}(lG:P a)(ml:P b)(pc:P c)(fp:P d){v:Val}(h:v∈[a,b,c,d]):P v:=by rcases AU h with rfl|rfl|rfl|rfl<;>assumption
theorem KZ{x:Str}(af:ca x){P:Val→Prop}(a:P (.s "Latn"))(b:P (.s "Grek"))(c:P (.s "Zzzz"))(d:P (.i 7))(e:P (.i 230))(f:P (.i 9))(g:P (.i 0))(h:P (.s "x")){v:Val}(aR:v∈vals x):P v:=by
 rcases af with rfl|rfl
 ·exact sp a b c d aR
 ·exact sp e f g h aR
theorem U9{x:Str}(af:ca x){v:Val}(aR:v∈vals x)(H:ao):nK H v.v=some (fp v).shown:=by
 have key:∀(w:Val),toD H 8 w.v=some (fp w)→((fp w).showable&& !(fp w).hasDict&&decide ((fp w).depth≤8)&&decide ((fp w).shown.length≤16777216))=true→nK H w.v=some (fp w).shown:=fun w ag ah=>bi ag (if_pos ah)
 exact KZ af (P:=fun v=>nK H v.v=some (fp v).shown) (key _ rfl (by decide+kernel)) (key _ rfl (by decide+kernel)) (key _ rfl (by decide+kernel)) (key _ rfl (by decide+kernel)) (key _ rfl (by decide+kernel)) (key _ rfl (by decide+kernel)) (key _ rfl (by decide+kernel)) (key _ rfl (by decide+kernel)) aR
theorem BI{x:Str}(af:ca x):∀v∈vals x,∀w∈vals x,(fp v).shown=(fp w).shown↔v=w:=by
 rcases af with rfl|rfl<;>decide+kernel
section
variable{H:ao}{l:Nat}{ps:List bF}
theorem vW:o2 [] H=some (.loc H.length,H++[.aS gK]):=
 Run.is (cu (cN (D6 (ak (et (ak aF (ak aF (ak aF (ak aF aJ)))) (show 4≤1000 by decide)) (ak (et (ak aF (ak aF (ak aF (ak aF aJ)))) (show 4≤1000 by decide)) aJ))) (congrArg (fun q=>(V.loc H.length,H++[aM.aS q])) (by kernel_rfl))) rfl)
noncomputable def inR(p:bF)(x:Str)(c:Int):Bool:=decide (p.w=x∧p.f≤c∧c≤p.l)
theorem Wj{σ:aN}{p:bF}{x:Str}{c:Int}(ag:σ 1=some (.str x))(ah:σ 2=some (.int c))(a7:σ 4=some (.str p.w))(cj:σ 5=some (.int p.f))(iU:σ 6=some (.int p.l)):
 ei [(bq .Eq (aa 4) (aa 1)),(lj .LtE .LtE (aa 5) (aa 2) (aa 6))] σ H=some (inR p x c,H):=by
 unfold inR
 by_cases bY:p.w=x
 ·refine g5 (bV (ae a7) (ae ag) (congrArg some (decide_eq_true bY))) ?_
  by_cases cM:p.f≤c
  ·by_cases eE:c≤p.l
   ·rw[decide_eq_true ⟨bY,cM,eE⟩];exact g5 (gL (ae cj) (ae ah) (h' cM) (ae iU) (h' eE)) sh
   ·rw[decide_eq_false fun q=>eE q.2.2];exact fE (gL (ae cj) (ae ah) (h' cM) (ae iU) (iA eE))
  ·rw[decide_eq_false fun q=>cM q.2.1];exact fE (Kq (ae cj) (ae ah) (iA cM))
 ·rw[decide_eq_false fun q=>bY q.1];exact fE (bV (ae a7) (ae ag) (congrArg some (decide_eq_false bY)))
theorem WL{x:Str}{c:Int}{i:Nat}{p:bF}(h:ps[i]?=some p):told (ps.take (i+1)) x c=if inR p x c then p.v else told (ps.take i) x c:=by
 unfold told inR;rw[hR h,List.foldl_append,Gc];rfl
theorem rc{x:Str}(af:ca x){c:Int}(au:H[l]?=some (.list (ps.map bF.V)))(aD:ps.length≤100):j_ [.loc l, .str x, .int c] H=some ((told ps x c).v,H++[.aS gK]):=by
 have lx:=Ext.app [aM.aS gK] _ _ au
 refine Run.is (cu (cq (cm (cm (bf aJ vW) (ae rfl) (gw bP (xL af))) aF (B1 af _)) (fB (el (ae rfl) (fo lx)) ps.length (Nat.le_trans aD (by decide)) (fun i σ H'=>σ 1=some (.str x)∧σ 2=some (.int c)∧σ 3=some (told (ps.take i) x c).v∧H'=H++[.aS gK]) ⟨rfl,rfl,rfl,rfl⟩ ?_ ?_ ?_)) rfl)
 ·rintro i σ _ hi ⟨ag,ah,aE,rfl⟩
  have oA:ps[i]?=some ps[i]:=List.getElem?_eq_getElem hi
  refine .mk (v:=ps[i].V) (dJ lx (by rw[List.getElem?_map,oA];rfl)) rfl ?_
  have xR:=Wj (H:=H++[.aS gK]) (σ:=mF σ [4,5,6,7] [.str ps[i].w, .int ps[i].f, .int ps[i].l,ps[i].v.v]) (p:=ps[i]) (x:=x) (c:=c) ag ah rfl rfl rfl
  have bW:=WL (x:=x) (c:=c) oA
  cases aZ:inR ps[i] x c with
  |true=>rw[aZ] at xR bW;exact fs xR (cq (ae rfl) (gZ (ez ⟨ag,ah,by rw[bW];rfl,rfl⟩)))
  |false=>rw[aZ] at xR bW;exact c6 xR (ez ⟨ag,ah,by rw[bW];exact aE,rfl⟩)
 ·exact fun σ aG I=>dJ (I.2.2.2▸lx) (List.getElem?_eq_none (Nat.le_of_eq (List.length_map _)))
 ·rintro σ _ ⟨_,_,aE,rfl⟩
  rw[List.take_length] at aE
  exact cN (ae aE) rfl
noncomputable def di(near far:List bF)(x:Str)(c:Int):Val:=if told far x c≠defOf x then told far x c else told near x c
theorem j2{x:Str}(af:ca x)(c:Int){ps:List bF}(aH:∀p∈ps,p.Ok):told ps x c∈vals x:=KB x af c ps _ aH (th af)
theorem rf{v:V}{s:Str}(h:nK H v=some s):eZ [v] H=some (.str s,H):=bm h
theorem rg{x:Str}(af:ca x){v:Val}(aR:v∈vals x):eZ [v.v] H=some (.str (fp v).shown,H):=bm (U9 af aR H)
theorem Eb{G:Prop}{x:Str}(af:ca x){c:Int}{rJ:Nat}{near far:List bF}(au:H[l]?=some (.list (near.map bF.V)))(lx:H[rJ]?=some (.list (far.map bF.V)))(aD:near.length≤100)(pV:far.length≤100)
 (ni:∀p∈far,p.Ok) (k:∀H',qL [.loc l, .loc rJ, .str x, .int c] H=some ((di near far x c).v,H')→Ext H H'→G):G:=by
 have bY:=rc (H:=H) af (c:=c) lx pV
 have a6:=Ext.app (H:=H) [aM.aS gK]
 generalize H++[aM.aS gK]=H1 at*
 have cM:=vW (H:=H1)
 have g2:(H1++[aM.aS gK])[H1.length]?=_:=bP
 have bj:=a6.trans (.app [aM.aS gK])
 generalize H1++[aM.aS gK]=aG at*
 have DJ:∀σ:aN,σ 2=some (.str x)→σ 4=some (told far x c).v→bq .NotEq (aO eZ [aa 4]) (aO eZ [bG (bG (aO o2 []) (aa 2)) (aj (.int 2))]) σ H1=some (!decide ((fp (told far x c)).shown=(fp (defOf x)).shown),aG):=fun σ ah a7=>
  bV (bf (ak (ae a7) aJ) (rg af (j2 af c ni))) (bf (ak (cm (cm (bf aJ cM) (ae ah) (gw g2 (xL af))) aF (B1 af _)) aJ) (rg af (th af))) rfl
 have inj:=BI af _ (j2 af c ni) _ (th af)
 unfold di at k
 by_cases q:told far x c=defOf x
 ·rw[if_neg fun z=>z q] at k
  exact k _ (Run.is (cu (cq (bf (ak (ae rfl) (ak (ae rfl) (ak (ae rfl) aJ))) bY) (cN (lp (DJ _ rfl rfl|>.trans (by rw[decide_eq_true (inj.mpr q)];rfl)) (bf (ak (ae rfl) (ak (ae rfl) (ak (ae rfl) aJ))) (rc af (bj _ _ au) aD))) rfl)) rfl)) (bj.trans (.app _))
 ·rw[if_pos q] at k
  exact k _ (Run.is (cu (cq (bf (ak (ae rfl) (ak (ae rfl) (ak (ae rfl) aJ))) bY) (cN (oj (DJ _ rfl rfl|>.trans (by rw[decide_eq_false fun z=>q (inj.mp z)];rfl)) (ae rfl)) rfl)) rfl)) bj
end
noncomputable def ic(x:Int)(ks:List Int):List Int:=if x∈ks then ks else ks++[x]
noncomputable def gF(ks:List Int)(p:bF):List Int:=if p.f≤p.l then ic (p.l+1) (ic p.f ks)else ks
noncomputable def dV(ps:List bF):List Int:=ps.foldl gF [0]
noncomputable def cutsOf(ps:List bF):List Int:=(sortI (dV ps)).filter fun c=>decide (c≤top)
theorem p4{x y:Int}{ks:List Int}:y∈ic x ks↔y=x∨y∈ks:=by
 unfold ic;split
 ·rename_i h;constructor
  ·exact .inr
  ·rintro(rfl|q);exact h;exact q
 ·simp[or_comm]
theorem Gp{x:Int}{ks:List Int}(h:ks.Nodup):(ic x ks).Nodup:=by
 unfold ic;split
 ·exact h
 ·rename_i q
  rw[List.nodup_append]
  exact⟨h,by simp,fun a aP b az=>by simp at az;subst az;exact fun e=>q (e▸aP)⟩
theorem Ax{x:Int}{ks:List Int}:(ic x ks).length≤ks.length+1:=by
 unfold ic;split<;>simp
theorem R3{p:bF}{ks:List Int}:(gF ks p).length≤ks.length+2:=by
 unfold gF;split
 ·have:=Ax (x:=p.l+1) (ks:=ic p.f ks);have:=Ax (x:=p.f) (ks:=ks);omega
 ·omega
theorem Gw:∀(ps:List bF) (ks:List Int),(∀p∈ps,p.Ok)→ks.Nodup→(∀k∈ks,0≤k)→(ps.foldl gF ks).Nodup∧(∀k∈ps.foldl gF ks,0≤k)∧(∀k∈ks,k∈ps.foldl gF ks)∧(∀p∈ps,p.f≤p.l→p.f∈ps.foldl gF ks∧p.l+1∈ps.foldl gF ks)∧(ps.foldl gF ks).length≤ks.length+2*ps.length
 |[],ks,_,ag,ah=>⟨ag,ah,fun _ h=>h,fun _ h=>by(cases h),by simp⟩
 |p::ps,ks,aH,ag,ah=>by
  have ok:=aH p (by simp)
  have dG:(gF ks p).Nodup:=by unfold gF;split;exact Gp (Gp ag);exact ag
  have zY:∀k∈gF ks p,0≤k:=by
   intro k aB
   unfold gF at aB
   split at aB
   ·rcases p4.mp aB with rfl|aB
    ·have:=ok.wY;omega
    ·rcases p4.mp aB with rfl|aB
     ·exact ok.f0
     ·exact ah k aB
   ·exact ah k aB
  obtain⟨a1,a2,ee,f9,g'⟩:=Gw ps (gF ks p) (fun q bC=>aH q (List.mem_cons_of_mem _ bC)) dG zY
  have old:∀k∈ks,k∈gF ks p:=by
   intro k aB;unfold gF;split
   ·exact p4.mpr (.inr (p4.mpr (.inr aB)))
   ·exact aB
  refine⟨a1,a2,fun k aB=>ee k (old k aB),fun q bC hn=> ?_,?_⟩
  ·rcases List.mem_cons.mp bC with rfl|bC
   ·have e:gF ks q=ic (q.l+1) (ic q.f ks):=by unfold gF;rw[if_pos hn]
    exact⟨ee _ (by rw[e];exact p4.mpr (.inr (p4.mpr (.inl rfl)))),ee _ (by rw[e];exact p4.mpr (.inl rfl))⟩
   ·exact f9 q bC hn
  ·have:=R3 (p:=p) (ks:=ks)
   rw[List.foldl_cons,List.length_cons];omega
theorem Al{x y:Int}:∀{l:List Int},y∈insI x l↔y=x∨y∈l
 |[]=>by simp[insI]
 |z::l=>by
  unfold insI;split
  ·simp
  ·simp[Al (l:=l)];constructor<;>(rintro(h|h|h)<;>simp[h])
theorem BZ{y:Int}:∀{l:List Int},y∈sortI l↔y∈l
 |[]=>by simp[sortI]
 |z::l=>by
  have aK:=BZ (y:=y) (l:=l)
  unfold sortI at aK⊢
  rw[List.foldr_cons,Al,aK,List.mem_cons]
theorem Gi{x:Int}:∀{l:List Int},l.Pairwise (· < ·)→x∉l→(insI x l).Pairwise (· < ·)
 |[],_,_=>by simp[insI]
 |z::l,h,af=>by
  rw[List.pairwise_cons] at h
  simp only[List.mem_cons,not_or] at af
  unfold insI;split
  ·rename_i hz
   rw[List.pairwise_cons,List.pairwise_cons]
   refine⟨fun y aQ=> ?_,h⟩
   rcases List.mem_cons.mp aQ with rfl|aQ
   ·omega
   ·have:=h.1 y aQ;omega
  ·rename_i hz
   rw[List.pairwise_cons]
   refine⟨fun y aQ=> ?_,Gi h.2 af.2⟩
   rcases Al.mp aQ with rfl|aQ
   ·omega
   ·exact h.1 y aQ
theorem Kb:∀{l:List Int},l.Nodup→(sortI l).Pairwise (· < ·)
 |[],_=>by simp[sortI]
 |z::l,h=>by
  rw[List.nodup_cons] at h
  have aK:=Kb h.2
  have hz:z∉sortI l:=fun q=>h.1 (BZ.mp q)
  unfold sortI at aK hz⊢
  rw[List.foldr_cons]
  exact Gi aK hz
theorem Gh{x:Int}:∀{l:List Int},(insI x l).length=l.length+1
 |[]=>rfl
 |z::l=>by unfold insI;split<;>simp[Gh (l:=l)]
theorem xJ:∀{l:List Int},(sortI l).length=l.length
 |[]=>rfl
 |z::l=>by
  have aK:=xJ (l:=l)
  unfold sortI at aK⊢
  rw[List.foldr_cons,Gh,aK];rfl
section
variable{ps:List bF}(aH:∀p∈ps,p.Ok)
include aH
theorem kJ:(dV ps).Nodup∧(∀k∈dV ps,0≤k)∧0∈dV ps∧(∀p∈ps,p.f≤p.l→p.f∈dV ps∧p.l+1∈dV ps)∧(dV ps).length≤1+2*ps.length:=by
 obtain⟨a1,a2,ee,f9,g'⟩:=Gw ps [0] aH (by simp) (by simp)
 exact⟨a1,a2,ee 0 (by simp),f9,g'⟩
theorem ta:(cutsOf ps).Pairwise (· < ·):=(Kb (kJ aH).1).filter _
theorem kp{c:Int}:c∈cutsOf ps↔c∈dV ps∧c≤top:=by
 unfold cutsOf;rw[List.mem_filter,BZ];simp
theorem yX:∃t,cutsOf ps=0::t:=by
 have h0:(0:Int)∈cutsOf ps:=(kp aH).mpr ⟨(kJ aH).2.2.1,by decide⟩
 have au:=ta aH
 cases h:cutsOf ps with
 |nil=>rw[h] at h0;cases h0
 |cons x t=>
  have af:0≤x:=(kJ aH).2.1 x ((kp aH).mp (by rw[h];simp)).1
  rw[h] at h0 au
  rcases List.mem_cons.mp h0 with e|h0
  ·exact⟨t,by rw[←e]⟩
  ·have:=(List.pairwise_cons.mp au).1 0 h0;omega
theorem KA(x:Str){a c:Int}(aP:0≤a)(X2:a≤c)(Qs:c≤top)(wF:∀k∈cutsOf ps,k≤c→k≤a){qs:List bF}(bC:∀p∈qs,p.w=x→p∈ps):told qs x c=told qs x a:=by
 have key:∀p∈qs,p.w=x→((p.f≤c∧c≤p.l)↔(p.f≤a∧a≤p.l)):=by
  intro p pW hw
  have FW:=bC p pW hw
  have ok:=aH p FW
  by_cases hn:p.f≤p.l
  ·obtain⟨k1,k2⟩:=(kJ aH).2.2.2.1 p FW hn
   have ha:=fun q:p.f≤c=>wF p.f ((kp aH).mpr ⟨k1,ok.wc⟩) q
   have fa:=fun q:p.l+1≤c=>wF (p.l+1) ((kp aH).mpr ⟨k2,by omega⟩) q
   constructor
   ·rintro⟨ag,ah⟩;exact⟨ha ag,by omega⟩
   ·rintro⟨ag,ah⟩
    refine⟨by omega,?_⟩
    refine Classical.byContradiction fun q=> ?_
    have:=fa (by omega);omega
  ·constructor<;>(rintro⟨ag,ah⟩;omega)
 unfold told
 have go:∀(l:List bF) (t:Val),(∀p∈l,p∈qs)→l.foldl (fun t p=>if p.w=x∧p.f≤c∧c≤p.l then p.v else t) t=l.foldl (fun t p=>if p.w=x∧p.f≤a∧a≤p.l then p.v else t) t:=by
  intro l
  induction l with
  |nil=>intro t _;rfl
  |cons p l aK=>
   intro t h
   rw[List.foldl_cons,List.foldl_cons]
   have:(if p.w=x∧p.f≤c∧c≤p.l then p.v else t)=(if p.w=x∧p.f≤a∧a≤p.l then p.v else t):=by
    by_cases hw:p.w=x
    ·have:=key p (h p (by simp)) hw
     simp only[hw,true_and,this]
    ·rw[if_neg fun q=>hw q.1,if_neg fun q=>hw q.1]
   rw[this]
   exact aK _ fun q bC=>h q (List.mem_cons_of_mem _ bC)
 exact go qs _ fun _ h=>h
end
noncomputable def kL(acc:List bh)(x:bh):List bh:=if acc.getLast?.map (·.2)=some x.2 then acc else acc++[x]
noncomputable def AW(l:List bh):List bh:=l.foldl kL []
structure mS(acc pre:List bh):Prop where
 ch:Ch acc
 get:∀c,cE acc c=cE pre c
 mem:∀x∈acc,x∈pre
 hd:acc.head?=pre.head?
 last:acc.getLast?.map (·.2)=pre.getLast?.map (·.2)
theorem mS.step{acc pre:List bh}{x:bh}(h:mS acc pre)(af:∀y∈pre,y.1<x.1):mS (kL acc x) (pre++[x]):=by
 have b6:∀c,cE (pre++[x]) c=if x.1≤c then some x.2 else cE pre c:=fun c=>by
  rw[rp,gb,jN]
  by_cases aU:x.1≤c<;>simp[aU]
 unfold kL
 by_cases au:acc.getLast?.map (·.2)=some x.2
 ·rw[if_pos au]
  refine⟨h.ch,fun c=> ?_,fun y aQ=>List.mem_append.mpr (.inl (h.mem y aQ)),?_,by rw[au];simp⟩
  ·rw[b6,h.get]
   by_cases aU:x.1≤c
   ·rw[if_pos aU,E' fun y aQ=>by have:=af y aQ;omega,←h.last,au]
   ·rw[if_neg aU]
  ·rw[h.hd]
   cases pre with
   |nil=>have:=h.hd;have ah:=h.last;rw[au] at ah;cases ah
   |cons z t=>rfl
 ·rw[if_neg au]
  refine⟨Ch.append.mpr ⟨h.ch,trivial,fun p q aH bC=> ?_⟩,fun c=> ?_,fun y aQ=> ?_,?_,by simp⟩
  ·simp at bC;subst bC
   refine⟨af p (h.mem p (List.mem_of_getLast? aH)),fun e=>au ?_⟩
   rw[aH];simp[e]
  ·rw[b6,rp,gb,jN,h.get]
   by_cases aU:x.1≤c<;>simp[aU]
  ·rcases List.mem_append.mp aQ with aQ|aQ
   ·exact List.mem_append.mpr (.inl (h.mem y aQ))
   ·exact List.mem_append.mpr (.inr aQ)
  ·have:=h.hd
   cases acc with
   |nil=>
    cases pre with
    |nil=>rfl
    |cons z t=>cases this
   |cons z t=>
    cases pre with
    |nil=>cases this
    |cons Cs j1=>simpa using this
theorem mS.all:∀(l pre acc:List bh),mS acc pre→((pre++l).map (·.1)).Pairwise (· < ·)→mS (l.foldl kL acc) (pre++l)
 |[],pre,acc,h,_=>by simpa using h
 |x::l,pre,acc,h,pw=>by
  have e:pre++x::l=(pre++[x])++l:=by simp
  rw[e] at pw⊢
  rw[List.foldl_cons]
  refine mS.all l (pre++[x]) _ (h.step fun y aQ=> ?_) pw
  rw[List.map_append,List.pairwise_append] at pw
  have:=pw.1
  rw[List.map_append,List.pairwise_append] at this
  exact this.2.2 y.1 (List.mem_map.mpr ⟨y,aQ,rfl⟩) x.1 (by simp)
theorem AX{l:List bh}(pw:(l.map (·.1)).Pairwise (· < ·)):mS (AW l) l:=by
 have:=mS.all l [] [] ⟨trivial,fun _=>rfl,fun _ h=>h,rfl,rfl⟩ (by simpa using pw)
 exact this
theorem SB{lh:List Int}(pw:lh.Pairwise (· < ·))(h0:0∈lh)(g:Int→Val){n:Int}(aD:0≤n):∃k∈lh,k≤n∧(∀gV∈lh,gV≤n→gV≤k)∧cE (lh.map fun c=>(c,g c)) n=some (g k):=by
 have dB:0∈lh.filter fun c=>decide (c≤n):=List.mem_filter.mpr ⟨h0,by simpa using aD⟩
 cases au:(lh.filter fun c=>decide (c≤n)).getLast? with
 |none=>rw[List.getLast?_eq_none_iff.mp au] at dB;cases dB
 |some k=>
  have aB:=List.mem_filter.mp (List.mem_of_getLast? au)
  refine⟨k,aB.1,by simpa using aB.2,fun gV nc hle=> ?_,?_⟩
  ·have hm:gV∈lh.filter fun c=>decide (c≤n):=List.mem_filter.mpr ⟨nc,by simpa using hle⟩
   have Bt:=pw.filter (fun c=>decide (c≤n))
   obtain⟨ci,Rz⟩:=List.getLast?_eq_some_iff.mp au
   rw[Rz] at hm Bt
   rcases List.mem_append.mp hm with hm|hm
   ·rw[List.pairwise_append] at Bt
    exact Int.le_of_lt (Bt.2.2 gV hm k (by simp))
   ·simp at hm;omega
  ·unfold cE
   rw[List.filter_map]
   show Option.map _ ((lh.filter fun c=>decide (c≤n)).map _).getLast?=_
   rw[List.getLast?_map,au];rfl
noncomputable def dy(near far:List bF)(x:Str):List Int:=cutsOf ((near++far).filter fun p=>decide (p.w=x))
noncomputable def hu(near far:List bF)(x:Str):List bh:=AW ((dy near far x).map fun c=>(c,di near far x c))
section
variable{near far:List bF}(aD:∀p∈near,p.Ok)(hf:∀p∈far,p.Ok)(x:Str)
include aD hf
theorem qc:∀p∈(near++far).filter fun p=>decide (p.w=x),p.Ok:=fun p aH=>by
 rcases List.mem_append.mp (List.mem_filter.mp aH).1 with h|h
 ·exact aD p h
 ·exact hf p h
theorem JG:Canon (hu near far x):=by
 have ok:=qc aD hf x
 have gn:(dy near far x).Pairwise (· < ·):=ta ok
 have hm:=AX (l:=(dy near far x).map fun c=>(c,di near far x c)) (by rw[List.map_map,show((fun x:bh=>x.1)∘fun c=>(c,di near far x c))=id from rfl,List.map_id];exact gn)
 refine⟨hm.ch,?_,fun y aQ=> ?_⟩
 ·obtain⟨t,bg⟩:=yX ok
  have ah:=hm.hd
  rw[show dy near far x=0::t from bg] at ah
  have aE:(hu near far x).head?=some (0,di near far x 0):=by unfold hu;rw[show dy near far x=0::t from bg];exact ah
  cases aZ:hu near far x with
  |nil=>rw[aZ] at aE;cases aE
  |cons z q=>rw[aZ] at aE;simp only[List.head?_cons,Option.some.injEq] at aE;exact⟨_,q,by rw[aE]⟩
 ·obtain⟨c,aU,rfl⟩:=List.mem_map.mp (hm.mem y aQ)
  exact((kp ok).mp aU).2
theorem Vd{c:Int}(h0:0≤c)(bg:c≤top):cE (hu near far x) c=some (di near far x c):=by
 have ok:=qc aD hf x
 have gn:(dy near far x).Pairwise (· < ·):=ta ok
 have hm:=AX (l:=(dy near far x).map fun c=>(c,di near far x c)) (by rw[List.map_map,show((fun x:bh=>x.1)∘fun c=>(c,di near far x c))=id from rfl,List.map_id];exact gn)
 unfold hu
 rw[hm.get]
 obtain⟨t,bU⟩:=yX ok
 obtain⟨k,aB,FH,FO,b6⟩:=SB gn (by rw[show dy near far x=0::t from bU];simp) (fun c=>di near far x c) h0
 rw[b6]
 have tR:0≤k:=(kJ ok).2.1 k ((kp ok).mp aB).1
 have ak:=KA ok x tR FH bg FO (qs:=near) fun p aH hw=>List.mem_filter.mpr ⟨List.mem_append.mpr (.inl aH),by simpa using hw⟩
 have bW:=KA ok x tR FH bg FO (qs:=far) fun p aH hw=>List.mem_filter.mpr ⟨List.mem_append.mpr (.inr aH),by simpa using hw⟩
 unfold di
 rw[ak,bW]
end
structure er(d:PyData)(k w:Nat):Prop where
 yS:d.canLay0=true
 dep:d.depth≤k
 K8:d.weight≤w
 JT:d.intsShort 13=true
 ok:d.showable=true
 bk:d.hasDict=false
theorem er.int{i:Int}(h0:0≤i)(bg:i≤1114112):er (.int i) 0 21:=by
 have au:i.natAbs.log2<21:=by
  by_cases h:i.natAbs=0
  ·rw[h];decide
  ·rw[Nat.log2_lt h];omega
 refine⟨rfl,Nat.le_refl _,?_,?_,?_,rfl⟩
 ·show(if i==0 then 0 else i.natAbs.log2+1)≤21
  split<;>omega
 ·show decide ((Str.ofString (toString i)).length≤13)=true
  rw[decide_eq_true_eq]
  exact Nat.le_trans (toString_length_le h0 (k:=13) (by decide) (by omega)) (Nat.le_refl _)
 ·show decide (i.natAbs.log2<1920)=true
  rw[decide_eq_true_eq];omega
theorem er.val{x:Str}(af:ca x){v:Val}(aR:v∈vals x):er (fp v) 0 21:=
 KZ af (P:=fun v=>er (fp v) 0 21) ⟨by decide+kernel,by decide+kernel,by decide+kernel,by decide+kernel,by decide+kernel,by decide+kernel⟩ ⟨by decide+kernel,by decide+kernel,by decide+kernel,by decide+kernel,by decide+kernel,by decide+kernel⟩ ⟨by decide+kernel,by decide+kernel,by decide+kernel,by decide+kernel,by decide+kernel,by decide+kernel⟩ ⟨by decide+kernel,by decide+kernel,by decide+kernel,by decide+kernel,by decide+kernel,by decide+kernel⟩ ⟨by decide+kernel,by decide+kernel,by decide+kernel,by decide+kernel,by decide+kernel,by decide+kernel⟩ ⟨by decide+kernel,by decide+kernel,by decide+kernel,by decide+kernel,by decide+kernel,by decide+kernel⟩ ⟨by decide+kernel,by decide+kernel,by decide+kernel,by decide+kernel,by decide+kernel,by decide+kernel⟩ ⟨by decide+kernel,by decide+kernel,by decide+kernel,by decide+kernel,by decide+kernel,by decide+kernel⟩ aR
theorem BW{k w:Nat}:∀{ds:List PyData},(∀d∈ds,er d k w)→PyData.canLayAll0 ds=true∧PyData.depthAll ds≤k∧PyData.weightAll ds≤ds.length*(w+1)∧PyData.intsShortAll 13 ds=true∧PyData.showableAll ds=true∧PyData.hasDictAll ds=false
 |[],_=>⟨rfl,Nat.zero_le _,by simp[PyData.weightAll],rfl,rfl,rfl⟩
 |d::ds,h=>by
  obtain⟨a1,a2,ee,f9,g',mX⟩:=BW (ds:=ds) fun e he=>h e (List.mem_cons_of_mem _ he)
  have s:=h d (by simp)
  refine⟨by simp[PyData.canLayAll0,s.yS,a1],by simp only[PyData.depthAll];have:=s.dep;omega,?_,by simp[PyData.intsShortAll,s.JT,f9],by simp[PyData.showableAll,s.ok,g'],by simp[PyData.hasDictAll,s.bk,mX]⟩
  simp only[PyData.weightAll,List.length_cons]
  have:=s.K8
  rw[Nat.add_mul];omega
theorem er.list{ds:List PyData}{k w:Nat}(h:∀d∈ds,er d k w):er (.list ds) (k+1) (ds.length*(w+1)):=by
 obtain⟨a1,a2,ee,f9,g',mX⟩:=BW h
 exact⟨a1,Nat.succ_le_succ a2,ee,f9,g',mX⟩
theorem er.tuple{ds:List PyData}{k w:Nat}(h:∀d∈ds,er d k w):er (.tuple ds) (k+1) (ds.length*(w+1)):=by
 obtain⟨a1,a2,ee,f9,g',mX⟩:=BW h
 exact⟨a1,Nat.succ_le_succ a2,ee,f9,g',mX⟩
theorem er.shaped{d:PyData}{k w:Nat}(h:er d k w)(aB:k≤64):SeqAt.shaped d=true:=by
 unfold SeqAt.shaped;rw[h.yS];simp;exact Nat.le_trans h.dep aB
theorem er.repr{H:ao}{v:V}{d:PyData}{k w:Nat}(h:er d k w)(aB:k≤8)(hw:w≤1000000)(hd:toD H 8 v=some d):nK H v=some d.shown:=by
 have wz:PyData.layable0 d=true:=by
  unfold PyData.layable0
  have ag:=h.dep;have ah:=h.K8
  simp[h.yS];omega
 have au:=shown_le13 wz h.JT
 refine bi hd (if_pos ?_)
 have ag:=h.dep
 have ah:d.depth≤8:=by omega
 have aE:d.shown.length≤16777216:=by omega
 simp[h.ok,h.bk,ah,aE]
noncomputable def ed(H:ao)(k:Nat)(v:V)(d:PyData):Prop:=∀n,k≤n→toD H n v=some d
theorem oE{α β:Type}{f:α→Option β}{a:α}{l:List α}{x:β}{r:List β}(h:f a=some x)(k:l.mapM f=some r):(a::l).mapM f=some (x::r):=List.mapM_cons.trans (bi h (bi k rfl))
theorem mapM_map{α β fg:Type}{f:β→Option fg}{e:α→β}{g:α→fg}:∀{l:List α},(∀x∈l,f (e x)=some (g x))→(l.map e).mapM f=some (l.map g)
 |[],_=>rfl
 |x::l,h=>oE (h x (.head _)) (mapM_map fun y aQ=>h y (.tail _ aQ))
section
variable{H:ao}{k:Nat}
theorem ed.int{i:Int}:ed H 0 (.int i) (.int i):=fun n _=>by cases n<;>rfl
theorem ed.val(v:Val):ed H 0 v.v (fp v):=fun n _=>by cases v<;>cases n<;>rfl
theorem ed.str{x:Str}:ed H 0 (.str x) (.str x):=fun n _=>by cases n<;>rfl
theorem ed.list{α:Type}{i:Nat}{l:List α}{e:α→V}{g:α→PyData}(au:H[i]?=some (.list (l.map e)))(h:∀x∈l,ed H k (e x) (g x)):ed H (k+1) (.loc i) (.list (l.map g))
 |0,aD=>absurd aD (Nat.not_succ_le_zero _)
 |m+1,aD=>bi (li au) (bm (mapM_map fun x af=>h x af m (Nat.le_of_succ_le_succ aD)))
end
noncomputable def nD(x:eG):PyData:= .tuple [.int x.1, .int x.2.1,fp x.2.2]
theorem ed.row{H:ao}(x:eG):ed H 1 (cv x) (nD x)
 |0,aD=>absurd aD (Nat.not_succ_le_zero _)
 |m+1,aD=>bm (f:=PyData.tuple) (oE (ed.int m (Nat.zero_le _)) (oE (ed.int m (Nat.zero_le _)) (oE (ed.val x.2.2 m (Nat.zero_le _)) rfl)))
structure pa(x:Str)(r:eG):Prop where
 f0:0≤r.1
 wc:r.1≤top
 wY:0≤r.2.1
 lt:r.2.1≤top
 v:r.2.2∈vals x
theorem er.row{x:Str}(af:ca x){r:eG}(h:pa x r):er (nD r) 1 66:=by
 have bg:top=1114111:=rfl
 have:=h.wc;have:=h.lt
 exact er.tuple (k:=0) (w:=21) (ds:=[.int r.1, .int r.2.1,fp r.2.2]) fun d hd=>by
  simp only[List.mem_cons,List.not_mem_nil,or_false] at hd
  rcases hd with rfl|rfl|rfl
  ·exact er.int h.f0 (by omega)
  ·exact er.int h.wY (by omega)
  ·exact er.val af h.v
theorem ed.rows{H:ao}{i:Nat}{l:List eG}(au:H[i]?=some (.list (l.map cv))):ed H 2 (.loc i) (.list (l.map nD)):=ed.list au fun x _=>ed.row x
theorem er.rows{x:Str}(af:ca x){l:List eG}(h:∀r∈l,pa x r):er (.list (l.map nD)) 2 (l.length*67):=by
 have:=er.list (k:=1) (w:=66) (ds:=l.map nD) fun d hd=>by
  obtain⟨r,aZ,rfl⟩:=List.mem_map.mp hd
  exact er.row af (h r aZ)
 simpa using this
theorem py{H:ao}{a b:V}{d e:PyData}(h:toD H 8 a=some d)(k:toD H 8 b=some e)(mt:SeqAt.shaped d=true)(Vq:SeqAt.shaped e=true):qB H a b=some (PyData.eqv d e):=bi h (bi k (if_pos (Bool.and_eq_true_iff.mpr ⟨mt,Vq⟩)))
theorem eq_nil{H:ao}{i j:Nat}{x:Str}(af:ca x){l:List eG}(au:H[i]?=some (.list (l.map cv)))(bM:H[j]?=some (.list []))(h:∀r∈l,pa x r):vEq H (.loc i) (.loc j)=some (decide (l=[])):=by
 refine(py (ed.rows au 8 (by decide)) (qu bM) ((er.rows af h).shaped (by decide)) rfl).trans ?_
 cases l<;>rfl
noncomputable def gN(k:Int):Int×V:=(k, .bool true)
theorem zB(x:Int):∀(ks:List Int),b0 x (.bool true) (ks.map gN)=(ic x ks).map gN
 |[]=>rfl
 |k::ks=>by
  have aK:=zB x ks
  simp only[List.map_cons,gN,b0]
  by_cases h:k=x
  ·subst h;rw[if_pos rfl];unfold ic;rw[if_pos (by simp)];rfl
  ·rw[if_neg h]
   have e:ic x (k::ks)=k::ic x ks:=by
    unfold ic
    by_cases af:x∈ks
    ·rw[if_pos (List.mem_cons_of_mem _ af),if_pos af]
    ·rw[if_neg (by simp[af];exact fun e=>h e.symm),if_neg af];rfl
   rw[e,List.map_cons]
   congr 1
theorem WT(ks:List Int):(ks.map gN).map (·.1)=ks:=by rw[List.map_map];show ks.map (fun k=>(gN k).1)=ks;simp[gN]
section
variable{H:ao}{l:Nat}{ps:List bF}
theorem y8(au:H[l]?=some (.list (ps.map bF.V)))(aH:∀p∈ps,p.Ok)(aD:ps.length≤30):oZ [.loc l] H=some (.loc (H.length+2),H++[.eI ((dV ps).map gN), .list ((sortI (dV ps)).map .int), .list ((cutsOf ps).map .int)]):=by
 have rG:∀i,(dV (ps.take i)).length≤61:=fun i=>by
  have:=(kJ (ps:=ps.take i) fun q bC=>aH q (List.mem_of_mem_take bC)).2.2.2.2
  rw[List.length_take] at this
  exact Nat.le_trans this (Nat.add_le_add_left (Nat.mul_le_mul_left 2 (Nat.le_trans (Nat.min_le_right _ _) aD)) 1)
 refine Run.is (cu (cq (NA (ak aF aJ)) (fB (el (ae rfl) (fo (Ext.app _ _ _ au))) ps.length (Nat.le_trans aD (by decide)) (fun i σ H'=>σ 1=some (.loc H.length)∧H'=H++[.eI ((dV (ps.take i)).map gN)]) ⟨rfl,rfl⟩ ?_ ?_ ?_)) rfl)
 ·rintro i σ _ hi ⟨ag,rfl⟩
  have oA:ps[i]?=some ps[i]:=List.getElem?_eq_getElem hi
  have bW:dV (ps.take (i+1))=gF (dV (ps.take i)) ps[i]:=by unfold dV;rw[hR oA,List.foldl_append];rfl
  have kX:((dV (ps.take i)).map gN).length≤1000:=by rw[List.length_map];exact Nat.le_trans (rG i) (by decide)
  refine .mk (v:=ps[i].V) (dJ (Ext.app _ _ _ au) (by rw[List.getElem?_map,oA];rfl)) rfl ?_
  by_cases q:ps[i].f≤ps[i].l
  ·refine fs (bV (ae rfl) (ae rfl) (h' q)) (jW aF (ae ag) (ae rfl) (KW bP kX) ?_)
   rw[k_,zB]
   have ja:((ic ps[i].f (dV (ps.take i))).map gN).length≤1000:=by rw[List.length_map];exact Nat.le_trans Ax (Nat.le_trans (Nat.succ_le_succ (rG i)) (by decide))
   refine jW aF (ae ag) (cT (ae rfl) aF rfl) (KW bP ja) (gZ (ez ⟨ag,?_⟩))
   rw[k_,zB,bW];unfold gF;rw[if_pos q]
  ·refine c6 (bV (ae rfl) (ae rfl) (iA q)) (ez ⟨ag,?_⟩)
   rw[bW];unfold gF;rw[if_neg q]
 ·rintro σ _ ⟨_,rfl⟩
  exact dJ (Ext.app _ _ _ au) (List.getElem?_eq_none (Nat.le_of_eq (List.length_map _)))
 ·rintro σ _ ⟨ag,rfl⟩
  have Ay:=rG ps.length
  rw[List.take_length] at Ay⊢
  have mw:=OE (H:=H++[.eI ((dV ps).map gN)]) bP (by rw[List.length_map];exact Nat.lt_of_le_of_lt Ay (by decide))
  rw[WT] at mw
  refine cN (oh (as:=sortI (dV ps)) (F:= .int) (fun c=>decide (c≤top)) .int (el (bf (ak (ae ag) aJ) mw) (fo bP)) (fun i G e=>dJ (e _ _ bP) rfl) rfl (by rw[xJ];exact Nat.le_trans Ay (by decide)) fun x _ cJ G e t1 _=>⟨bV (ae t1) aF rfl,fun _=>ae t1⟩) ?_
  rw[List.length_append,List.length_append,List.append_assoc,List.append_assoc];rfl
theorem D'{i a b ln lf:Nat}{near far:List bF}{x:Str}{σ:aN}(hi:σ i=some (.str x))(aP:σ a=some (.loc ln))(az:σ b=some (.loc lf))(aD:H[ln]?=some (.list (near.map bF.V)))(hf:H[lf]?=some (.list (far.map bF.V)))
 (iW:near.length+far.length≤1000):
 ef [(2,i)] (cP (bI .Add (aa a) (aa b))) (cx 1) (bq .Eq (bG (aa 1) (aj (.int 0))) (aa 2)) (aa 1) σ H=some (.loc (H.length+1),H++[.list ((near++far).map bF.V), .list (((near++far).filter fun p=>decide (p.w=x)).map bF.V)]):=by
 have z:=Nat.le_trans iW (show 1000≤1000000 by decide)
 have q:=vF aD hf (by rw[List.length_map,List.length_map];exact z)
 rw[←List.map_append] at q
 refine(oh (caps:=[(2,i)]) (as:=near++far) (F:=bF.V) (fun p=>decide (p.w=x)) bF.V (el (cT (ae aP) (ae az) q) (fo bP)) (fun i G e=>dJ (e _ _ bP) rfl) (by show(σ i).isSome&&true=true;rw[hi];rfl) (by rw[List.length_append];exact z) fun x _ cJ G e t1 qt=>⟨bV (cm (ae t1) aF rfl) (ae ((qt 2 (by decide)).trans hi)) rfl,fun _=>ae t1⟩).trans ?_
 rw[List.length_append,List.append_assoc];rfl
end
noncomputable def jz:List bh→Int→List eG
 |[],_=>[]
 |[x],e=>[(x.1,e,x.2)]
 |x::y::r,e=>(x.1,y.1 - 1,x.2)::jz (y::r) e
theorem xt:∀r:List bh,jz r top=dj r
 |[]=>rfl
 |[_]=>rfl
 |x::y::r=>by simp[jz,dj,xt (y::r)]
theorem xr:∀(r:List bh) (y:bh) (e:Int),jz (r++[y]) e=jz r (y.1 - 1)++[(y.1,e,y.2)]
 |[],y,e=>rfl
 |[x],y,e=>rfl
 |x::z::r,y,e=>by
  have:=xr (z::r) y e
  simp only[List.cons_append,jz] at this⊢
  rw[this]
theorem JD:∀(r:List bh) (e:Int),(jz r e).length=r.length
 |[],_=>rfl
 |[_],_=>rfl
 |x::y::r,e=>by simp[jz,JD (y::r)]
noncomputable def sO(x:Str)(l:List eG):Prop:=∀r∈l,pa x r
theorem xq{x:Str}:∀{r:List bh} {e:Int},Ch r→(∀y∈r,0≤y.1∧y.1≤top∧y.2∈vals x)→0≤e→e≤top→sO x (jz r e)
 |[],_,_,_,_,_=>fun r aZ=>by cases aZ
 |[y],e,_,h,h0,bg=>fun r aZ=>by
  simp only[jz,List.mem_singleton] at aZ
  subst aZ
  obtain⟨a,b,c⟩:=h y (by simp)
  exact⟨a,b,h0,bg,c⟩
 |y::z::t,e,aU,h,h0,bg=>fun r aZ=>by
  simp only[jz,List.mem_cons] at aZ
  rcases aZ with rfl|aZ
  ·obtain⟨a,b,c⟩:=h y (by simp)
   obtain⟨cp,hD,_⟩:=h z (by simp)
   have:=aU.b4.1.1
   exact⟨a,b,by show 0≤z.1 - 1;omega,by show z.1 - 1≤top;omega,c⟩
  ·exact xq aU.b4.2 (fun q bC=>h q (List.mem_cons_of_mem _ bC)) h0 bg r aZ
noncomputable def foldM(near far:List bF)(x:Str)(i:Nat):List bh:=((((dy near far x).map fun c=>(c,di near far x c)).take i).foldl kL [])
section
variable{near far:List bF}(aD:∀p∈near,p.Ok)(hf:∀p∈far,p.Ok){x:Str}(af:ca x)
theorem OX{i:Nat}{c:Int}(aU:(dy near far x)[i]?=some c):foldM near far x (i+1)=kL (foldM near far x i) (c,di near far x c):=by
 unfold foldM
 rw[hR (x:=(c,di near far x c)) (by rw[List.getElem?_map,aU];rfl),List.foldl_append];rfl
include aD hf af in
theorem Ex(i:Nat):Ch (foldM near far x i)∧(∀y∈foldM near far x i,0≤y.1∧y.1≤top∧y.2∈vals x)∧(foldM near far x i).length≤i:=by
 have ok:=qc aD hf x
 have gn:(dy near far x).Pairwise (· < ·):=ta ok
 have pw:((((dy near far x).map fun c=>(c,di near far x c)).take i).map (·.1)).Pairwise (· < ·):=by
  rw[List.map_take,List.map_map,show((fun x:bh=>x.1)∘fun c=>(c,di near far x c))=id from rfl,List.map_id]
  exact gn.sublist (List.take_sublist ..)
 have m:=AX pw
 refine⟨m.ch,fun y aQ=> ?_,?_⟩
 ·have ag:=List.mem_of_mem_take (m.mem y aQ)
  obtain⟨c,aU,rfl⟩:=List.mem_map.mp ag
  refine⟨(kJ ok).2.1 c ((kp ok).mp aU).1,((kp ok).mp aU).2,?_⟩
  show di near far x c∈vals x
  unfold di;split
  ·exact j2 af c hf
  ·exact j2 af c aD
 ·have key:∀(l acc:List bh),(l.foldl kL acc).length≤acc.length+l.length:=by
   intro l
   induction l with
   |nil=>intro acc;simp
   |cons z l aK=>
    intro acc
    have ag:=aK (kL acc z)
    have ah:(kL acc z).length≤acc.length+1:=by unfold kL;split<;>simp
    rw[List.foldl_cons,List.length_cons];omega
  have:=key (((dy near far x).map fun c=>(c,di near far x c)).take i) []
  simp only[List.length_nil,List.length_take,Nat.zero_add] at this
  exact Nat.le_trans this (Nat.min_le_left _ _)
include aD hf in
theorem NG(i:Nat)(hi:0<i):0≤endAt (dy near far x) i∧endAt (dy near far x) i≤top:=by
 have ok:=qc aD hf x
 unfold endAt
 cases h:(dy near far x)[i]? with
 |none=>exact⟨by decide,Int.le_refl _⟩
 |some c=>
  have hm:=List.mem_of_getElem? h
  have ag:=(kJ ok).2.1 c ((kp ok).mp hm).1
  have ah:=((kp ok).mp hm).2
  have gn:(dy near far x).Pairwise (· < ·):=ta ok
  obtain⟨t,bg⟩:=yX ok
  have aE:(0:Int)<c:=by
   have e:dy near far x=0::t:=bg
   rw[e] at h gn
   obtain⟨j,rfl⟩:∃j,i=j+1:=⟨i - 1,by omega⟩
   rw[List.getElem?_cons_succ] at h
   exact(List.pairwise_cons.mp gn).1 c (List.mem_of_getElem? h)
  show 0≤c - 1∧c - 1≤top
  omega
end
theorem GN{P:List V}{z:V}:(-1:Int)+((P++[z]).length:Int)=(P.length:Int):=by rw[List.length_append];show(-1:Int)+((P.length:Int)+1)=_;rw[Int.add_comm];exact Int.add_neg_cancel_right _ _
theorem GO{P:List V}{z:V}: -((P++[z]).length:Int)≤ -1:=by rw[List.length_append];exact Int.neg_le_neg (Int.ofNat_le.mpr (Nat.le_add_left 1 _))
theorem uP{H:ao}{l:Nat}{P:List V}{z:V}(h:H[l]?=some (.list (P++[z]))):f5 (.loc l) (.int (-1)) H=some z:=
 bi (li h) ((if_pos (by decide)).trans (bi (a:=P.length) ((if_neg (by decide)).trans ((if_pos GO).trans (congrArg (fun i:Int=>some i.toNat) GN))) List.getElem?_concat_length))
theorem Ki{H:ao}{l:Nat}{P:List V}{z v:V}(h:H[l]?=some (.list (P++[z]))):nL (.loc l) (.int (-1)) v H=some (H.set l (.list (P++[v]))):=by
 refine bi rfl ((congrArg (uM l (-1) v H) h).trans ((if_pos ⟨by decide,GO,by decide⟩).trans ?_))
 rw[GN]
 show some (H.set l (.list ((P++[z]).set P.length v)))=_
 rw[List.set_append_right _ _ (Nat.le_refl _),Nat.sub_self];rfl
section
variable{H:ao}{ln lf:Nat}{near far:List bF}{x:Str}(af:ca x)(aD:∀p∈near,p.Ok)(hf:∀p∈far,p.Ok)
structure sM(H:ao)(ln lf eg gG:Nat)(near far:List bF)(x:Str)(i:Nat)(σ:aN)(H':ao):Prop where
 s0:σ 0=some (.loc ln)
 s1:σ 1=some (.loc lf)
 s2:σ 2=some (.str x)
 s3:σ 3=some (.loc eg)
 s4:σ 4=some (.loc gG)
 old:Ext H H'
 ee:H'[eg]?=some (.list ((dy near far x).map .int))
 f9:H'[gG]?=some (.list ((jz (foldM near far x i) (endAt (dy near far x) i)).map cv))
noncomputable abbrev SA:cK:=ei [(bq .NotEq (aa 4) (dList [])),(bq .Eq (aO eZ [(bG (bG (aa 4) (jn (aj (.int 1)))) (aj (.int 2)))]) (aO eZ [(aa 7)]))]
include af in
theorem SD{gG:Nat}{σ:aN}{rows:List eG}{v:Val}(a7:H[gG]?=some (.list (rows.map cv)))(ok:∀r∈rows,pa x r)(aR:v∈vals x)(s4:σ 4=some (.loc gG))(hN:σ 7=some v.v):
 SA σ H=some (match rows.getLast? with|none=>false|some z=>decide (z.2.2=v),H++[.list []]):=by
 have wk:=Ext.app [aM.list []] _ _ a7
 have cZ:bq .NotEq (aa 4) (dList []) σ H=some (!decide (rows=[]),H++[.list []]):=bV (ae s4) (d4 aJ (Nat.zero_le _)) (congrArg (Option.map _) (eq_nil af wk bP ok))
 rcases List.eq_nil_or_concat rows with rfl|⟨P,z,hz⟩
 ·exact fE cZ
 ·rw[List.concat_eq_append] at hz
  subst hz
  have Lm:=(ok z (List.mem_append_right _ (.head _))).v
  have inj:=BI af _ Lm _ aR
  rw[List.map_append] at wk
  rw[decide_eq_false (by rw[List.append_eq_nil_iff];exact fun q=>nomatch q.2)] at cZ
  rw[List.getLast?_concat]
  have Nv:f5 (cv z) (.int 2) (H++[.list []])=some z.2.2.v:=oS (i:=2) (xs:=[V.int z.1,V.int z.2.1,z.2.2.v]) rfl (by decide)
  refine g5 cZ (Wi (bV (bf (ak (cm (cm (ae s4) (oi aF) (uP wk)) aF Nv) aJ) (rg af Lm)) (bf (ak (ae hN) aJ) (rg af aR)) (W7 (H++[.list []]) _ _)) (Bool.eq_iff_iff.mpr ?_))
  rw[beq_iff_eq,decide_eq_true_eq];exact inj
include af aD hf in
theorem SF{eg gG i:Nat}{σ:aN}{H':ao}{c:Int}(PM:eg≠gG)(a7:H.length≤gG)(cb:H[ln]?=some (.list (near.map bF.V)))(fz:H[lf]?=some (.list (far.map bF.V)))(zn:near.length≤100)(jc:far.length≤100)
 (nP:(dy near far x).length≤1000) (aU:(dy near far x)[i]?=some c) (I:sM H ln lf eg gG near far x i σ H') {K:Out→Prop}:
 Run ((aq (bT 7 (aO qL [(aa 0),(aa 1),(aa 2),(aa 6)])) (aq (bT 8 (fb (bq .Lt (bI .Add (aa 5) (aj (.int 1))) (aO iC [(aa 3)])) (bI .Sub (bG (aa 3) (bI .Add (aa 5) (aj (.int 1)))) (aj (.int 1))) (aj (.int 1114111)))) (aq (b8 (ei [(bq .NotEq (aa 4) (dList [])),(bq .Eq (aO eZ [(bG (bG (aa 4) (jn (aj (.int 1)))) (aj (.int 2)))]) (aO eZ [(aa 7)]))]) (aq (gA (aa 4) (jn (aj (.int 1))) (cQ [(bG (bG (aa 4) (jn (aj (.int 1)))) (aj (.int 0))),(aa 8),(aa 7)])) aI) (aq (c8 (b5 (g4 hG) (aa 4) [(cQ [(aa 6),(aa 8),(aa 7)])])) aI)) aI))) (upd (upd σ 5 (.int i)) 6 (.int c)) H') (ip (sM H ln lf eg gG near far x (i+1)) K):=by
 refine Eb af (c:=c) (I.old _ _ cb) (I.old _ _ fz) zn jc hf fun H1 bM a6=> ?_
 obtain⟨zm,zt,zq⟩:=Ex aD hf af i
 have kC:∀r∈jz (foldM near far x i) (endAt (dy near far x) i),pa x r:=by
  cases i with
  |zero=>exact fun r aZ=>nomatch aZ
  |succ i=>obtain⟨bY,cM⟩:=NG aD hf (x:=x) (i+1) (Nat.succ_pos i);exact xq zm zt bY cM
 have QT:di near far x c∈vals x:=by
  unfold di;split
  ·exact j2 af c hf
  ·exact j2 af c aD
 have fm:endAt (dy near far x) i=c - 1:=by unfold endAt;rw[aU]
 have z8:=OX (near:=near) (far:=far) (x:=x) aU
 have fy:=a6 _ _ I.f9
 have bj:=a6.trans (.app [aM.list []])
 have tt:=SD (σ:=upd (upd (upd (upd σ 5 (.int i)) 6 (.int c)) 7 (di near far x c).v) 8 (.int (endAt (dy near far x) (i+1)))) af fy kC QT I.s4 rfl
 have pH:=bj _ _ I.f9
 rw[fm] at tt fy pH
 generalize H1++[aM.list []]=aG at*
 have fin:∀{gy q},(∀j,j<5→gy j=σ j)→q=(jz (foldM near far x (i+1)) (endAt (dy near far x) (i+1))).map cv→sM H ln lf eg gG near far x (i+1) gy (aG.set gG (.list q)):=fun{gy q} gE aZ=>
  ⟨(gE 0 (by decide)).trans I.s0,(gE 1 (by decide)).trans I.s1,(gE 2 (by decide)).trans I.s2,(gE 3 (by decide)).trans I.s3,(gE 4 (by decide)).trans I.s4,(I.old.trans bj).nG a7,(List.getElem?_set_ne PM.symm).trans (bj _ _ I.ee),aZ▸fQ pH⟩
 have aY:∀j,j<5→upd (upd (upd (upd σ 5 (.int i)) 6 (.int c)) 7 (di near far x c).v) 8 (.int (endAt (dy near far x) (i+1))) j=σ j:=fun j bM=>by
  have:=Nat.ne_of_lt bM
  rw[m6,if_neg (Nat.ne_of_lt (Nat.lt_trans bM (by decide))),m6,if_neg (Nat.ne_of_lt (Nat.lt_trans bM (by decide))),m6,if_neg (Nat.ne_of_lt (Nat.lt_trans bM (by decide))),m6,if_neg this]
 refine cq (bf (ak (ae I.s0) (ak (ae I.s1) (ak (ae I.s2) (ak (ae rfl) aJ)))) bM) (cq (GP (a6 _ _ I.ee) (Nat.lt_of_le_of_lt nP (by decide)) I.s3 rfl) ?_)
 have app:foldM near far x (i+1)=foldM near far x i++[(c,di near far x c)]→Run ((aq (c8 (b5 (g4 hG) (aa 4) [(cQ [(aa 6),(aa 8),(aa 7)])])) aI) (upd (upd (upd (upd σ 5 (.int i)) 6 (.int c)) 7 (di near far x c).v) 8 (.int (endAt (dy near far x) (i+1)))) aG) (n4 aI (ip (sM H ln lf eg gG near far x (i+1)) K)):=fun z3=>
  ge (dM (ae I.s4) (kR pH) (ak (et (ak (ae rfl) (ak (ae rfl) (ak (ae rfl) aJ))) (show 3≤1000 by decide)) aJ) (l4 pH (by rw[List.length_map,JD];exact Nat.le_trans zq (Nat.le_trans (Nat.le_of_lt (List.getElem?_eq_some_iff.mp aU).1) (Nat.le_trans nP (by decide)))))) (gZ (ez (fin aY (by rw[z3,xr,List.map_append];rfl))))
 rcases List.eq_nil_or_concat (foldM near far x i)with hm|⟨r,y,hm⟩
 ·rw[hm] at tt
  exact r_ tt (app (by rw[z8,hm];rfl))
 ·rw[List.concat_eq_append] at hm
  have z0:=xr r y (c - 1)
  rw[←hm] at z0
  rw[z0] at tt
  rw[List.getLast?_concat] at tt
  by_cases aR:y.2=di near far x c
  ·have z3:foldM near far x (i+1)=foldM near far x i:=by rw[z8];unfold kL;rw[if_pos (by rw[hm,List.getLast?_concat,Option.map_some,aR])]
   rw[z0,List.map_append] at pH
   refine fs (tt.trans (congrArg (fun b=>some (b,aG)) (decide_eq_true aR))) (jW (et (ak (cm (cm (ae I.s4) (oi aF) (uP pH)) aF rfl) (ak (ae rfl) (ak (ae rfl) aJ))) (show 3≤1000 by decide)) (ae I.s4) (oi aF) (Ki pH) (gZ (ez (fin aY ?_))))
   rw[z3,hm,xr,List.map_append,←aR];rfl
  ·exact r_ (tt.trans (congrArg (fun b=>some (b,aG)) (decide_eq_false aR))) (app (by rw[z8];unfold kL;rw[if_neg];rw[hm,List.getLast?_concat];exact fun q=>aR (Option.some.inj q)))
end
section
variable{H:ao}{ln lf:Nat}{near far:List bF}{x:Str}(af:ca x)(aD:∀p∈near,p.Ok)(hf:∀p∈far,p.Ok)
include aD hf in
theorem yW:(dy near far x).length≤1+2*(near.length+far.length):=by
 have ah:((near++far).filter fun p=>decide (p.w=x)).length≤near.length+far.length:=Nat.le_trans (List.length_filter_le ..) (Nat.le_of_eq List.length_append)
 refine Nat.le_trans (List.length_filter_le ..) ?_
 rw[xJ]
 exact Nat.le_trans (kJ (qc aD hf x)).2.2.2.2 (Nat.add_le_add_left (Nat.mul_le_mul_left 2 ah) 1)
include aD hf in
theorem JH(af:ca x):Ch (hu near far x)∧(∀y∈hu near far x,0≤y.1∧y.1≤top∧y.2∈vals x)∧(hu near far x).length≤(dy near far x).length∧foldM near far x (dy near far x).length=hu near far x:=by
 have m_:foldM near far x (dy near far x).length=hu near far x:=by
  unfold foldM hu AW
  rw[List.take_of_length_le (Nat.le_of_eq (List.length_map _))]
 obtain⟨a,b,c⟩:=Ex aD hf af (dy near far x).length
 rw[m_] at a b c
 exact⟨a,b,c,m_⟩
include af aD hf in
theorem NX{G:Prop}(cb:H[ln]?=some (.list (near.map bF.V)))(fz:H[lf]?=some (.list (far.map bF.V)))(z:near.length+far.length≤30)
 (k:∀L H',sG [.loc ln, .loc lf, .str x] H=some (.loc L,H')→H'[L]?=some (.list ((dD (defOf x) (hu near far x)).map cv))→H.length≤L→Ext H H'→G):G:=by
 have nP:=Nat.le_trans (yW (x:=x) aD hf) (Nat.add_le_add_left (Nat.mul_le_mul_left 2 z) 1)
 have hn:((near++far).filter fun p=>decide (p.w=x)).length≤30:=Nat.le_trans (List.length_filter_le ..) (by rw[List.length_append];exact z)
 have bY:=D' (H:=H) (i:=2) (a:=0) (b:=1) (x:=x) (σ:=f_ [.loc ln, .loc lf, .str x]) rfl rfl rfl cb fz (Nat.le_trans z (by decide))
 have a6:=Ext.app (H:=H) [aM.list ((near++far).map bF.V), .list (((near++far).filter fun p=>decide (p.w=x)).map bF.V)]
 have g1:(H++[aM.list ((near++far).map bF.V), .list (((near++far).filter fun p=>decide (p.w=x)).map bF.V)])[H.length+1]?=some (.list (((near++far).filter fun p=>decide (p.w=x)).map bF.V)):=by
  rw[List.getElem?_append_right (Nat.le_add_right ..),Nat.add_sub_cancel_left];rfl
 generalize H++[aM.list ((near++far).map bF.V), .list (((near++far).filter fun p=>decide (p.w=x)).map bF.V)]=H1 at*
 have cM:=y8 g1 (qc aD hf x) hn
 have bj:Ext H1 (H1++[aM.eI ((dV ((near++far).filter fun p=>decide (p.w=x))).map gN), .list ((sortI (dV ((near++far).filter fun p=>decide (p.w=x)))).map .int), .list ((dy near far x).map .int)]):= .app _
 have g2:(H1++[aM.eI ((dV ((near++far).filter fun p=>decide (p.w=x))).map gN), .list ((sortI (dV ((near++far).filter fun p=>decide (p.w=x)))).map .int), .list ((dy near far x).map .int)])[H1.length+2]?=some (.list ((dy near far x).map .int)):=by
  rw[List.getElem?_append_right (Nat.le_add_right ..),Nat.add_sub_cancel_left];rfl
 have UK:oZ [.loc (H.length+1)] H1=some (.loc (H1.length+2),H1++[aM.eI ((dV ((near++far).filter fun p=>decide (p.w=x))).map gN), .list ((sortI (dV ((near++far).filter fun p=>decide (p.w=x)))).map .int), .list ((dy near far x).map .int)]):=cM
 generalize H1++[aM.eI ((dV ((near++far).filter fun p=>decide (p.w=x))).map gN), .list ((sortI (dV ((near++far).filter fun p=>decide (p.w=x)))).map .int), .list ((dy near far x).map .int)]=aG at*
 clear cM
 have K':=a6.trans bj
 have cc:=K'.trans (.app [aM.list []])
 have eg:=fO g2
 obtain⟨⟨v,H'⟩,e,L,rfl,a,b,c⟩:Run (sG [.loc ln, .loc lf, .str x] H) fun p=>∃L,p.1= .loc L∧p.2[L]?=some (.list ((dD (defOf x) (hu near far x)).map cv))∧H.length≤L∧Ext H p.2:=by
  refine cu (qf (et (ak (bf (ak bY aJ) UK) (ak (d4 aJ (Nat.zero_le _)) aJ)) (show 2≤1000 by decide)) rfl ?_) rfl
  refine fB (Aj (ae rfl) (Ext.app _ _ _ g2)) (dy near far x).length (Nat.le_trans nP (by decide)) (sM H ln lf (H1.length+2) aG.length near far x) ⟨rfl,rfl,rfl,rfl,rfl,cc,Ext.app _ _ _ g2,bP⟩ (fun i σ H' hi I=> ?_) (fun σ H' I=>Bk I.ee (Nat.le_of_eq (List.length_map _))) fun σ H3 I=> ?_
  ·have aU:(dy near far x)[i]?=some (dy near far x)[i]:=List.getElem?_eq_getElem hi
   exact .mk (Bj I.ee (by rw[List.getElem?_map,aU];rfl)) rfl (SF af aD hf (Nat.ne_of_lt eg) K'.len cb fz (Nat.le_trans (Nat.le_add_right ..) (Nat.le_trans z (by decide))) (Nat.le_trans (Nat.le_add_left ..) (Nat.le_trans z (by decide))) (Nat.le_trans nP (by decide)) aU I)
  ·obtain⟨zm,zt,zq,m_⟩:=JH aD hf af
   have f9:=I.f9
   rw[m_,show endAt (dy near far x) (dy near far x).length=top by unfold endAt;rw[List.getElem?_eq_none (Nat.le_refl _)],xt] at f9
   refine U0 (UV (as:=dj (hu near far x)) (F:=cv) (fun r=> !decide (r.2.2=defOf x)) cv (el (ae I.s4) (fo f9)) (fun i G e=>dJ (e _ _ f9) rfl) (by show(σ 2).isSome&&true=true;rw[I.s2];rfl) (by rw[nE];exact Nat.le_trans zq (Nat.le_trans nP (by decide))) (fun r aZ cJ G e t1 qt=> ?_) fun G nO jq=>⟨_,rfl,jq,I.old.len,I.old.trans nO⟩)
   rw[←xt] at aZ
   have aR:=(xq zm zt (by decide) (Int.le_refl _) r aZ).v
   refine⟨_,bV (bf (ak (cm (ae t1) aF rfl) aJ) (rg af aR)) (bf (ak (cm (cm (bf aJ vW) (ae ((qt 4 (by decide)).trans I.s2)) (gw bP (xL af))) aF (B1 af _)) aJ) (rg af (th af))) (congrArg (fun b=>some (!b)) (Bool.eq_iff_iff.mpr ?_)), .app _,fun _=>ae t1⟩
   rw[beq_iff_eq,decide_eq_true_eq];exact BI af _ aR _ (th af)
 exact k L H' e a b c
end
noncomputable def nI(x:Str)(r:eG):bF:=⟨x,r.1,r.2.1,r.2.2⟩
noncomputable def hU(x:Str)(r:List bh):List bF:=(dD (defOf x) r).map (nI x)
noncomputable def stepT(x:Str)(c:Int)(t:Val)(p:bF):Val:=if p.w=x∧p.f≤c∧c≤p.l then p.v else t
theorem WK(ps:List bF)(x:Str)(c:Int):told ps x c=ps.foldl (stepT x c) (defOf x):=rfl
theorem MX{x y:bh}{r:List bh}(h:Ch (x::y::r)):∀z∈y::r,x.1<z.1:=by
 intro z hz
 have:=lg h
 rw[List.map_cons,List.pairwise_cons] at this
 exact this.1 _ (List.mem_map.mpr ⟨z,hz,rfl⟩)
theorem B'{x:Str}{c:Int}(aU:c≤top):∀{r:List bh},Ch r→∀(t:Val),(hU x r).foldl (stepT x c) t=(match cE r c with
 |some w=>if w=defOf x then t else w
 |none=>t)
 |[],_,t=>rfl
 |[y],_,t=>by
  rw[gb,jN,Option.none_or]
  unfold hU dD dj
  by_cases hd:y.2=defOf x
  ·by_cases h:y.1≤c<;>simp[hd,h]
  ·by_cases h:y.1≤c<;>simp[hd,h,stepT,nI,aU]
 |y::z::r,h,t=>by
  have aK:=B' aU (x:=x) h.b4.2
  have e:hU x (y::z::r)=(if y.2=defOf x then []else [nI x (y.1,z.1 - 1,y.2)])++hU x (z::r):=by
   unfold hU dD
   simp only[dj]
   rw[List.filter_cons]
   by_cases hd:y.2=defOf x<;>simp[hd]
  rw[e,List.foldl_append,aK,gb y]
  by_cases hz:c<z.1
  ·have aD:cE (z::r) c=none:=m8 fun u bR=>by
    rcases List.mem_cons.mp bR with rfl|bR
    ·exact hz
    ·have:=lg h.b4.2
     rw[List.map_cons,List.pairwise_cons] at this
     have:=this.1 _ (List.mem_map.mpr ⟨u,bR,rfl⟩);omega
   rw[aD,Option.none_or]
   have Af:c≤z.1 - 1:=by omega
   by_cases hd:y.2=defOf x
   ·by_cases aQ:y.1≤c<;>simp[hd,aQ]
   ·by_cases aQ:y.1≤c<;>simp[hd,aQ,stepT,nI,Af]
  ·obtain⟨w,hw⟩:∃w,cE (z::r) c=some w:=by
    rw[gb]
    cases cE r c with
    |some w=>exact⟨w,rfl⟩
    |none=>exact⟨z.2,by simp[show z.1≤c by omega]⟩
   have Af:¬c≤z.1 - 1:=by omega
   have ak:(if y.2=defOf x then []else [nI x (y.1,z.1 - 1,y.2)]).foldl (stepT x c) t=t:=by
    by_cases hd:y.2=defOf x<;>simp[hd,stepT,nI,Af]
   rw[ak,hw];simp
theorem KC{x y:Str}(h:y≠x)(c:Int)(r:List bh)(t:Val):(hU y r).foldl (stepT x c) t=t:=by
 unfold hU
 generalize dD (defOf y) r=l
 induction l generalizing t with
 |nil=>rfl
 |cons z l aK=>
  rw[List.map_cons,List.foldl_cons,aK]
  unfold stepT;rw[if_neg fun q=>h q.1]
noncomputable def lH(g:Str→Option (List bh)):List bF:=hU "ccc" (rowsOf (g "ccc") "ccc")++hU "sc" (rowsOf (g "sc") "sc")
theorem KD{x:Str}(af:ca x){c:Int}(aU:c≤top){g:Str→Option (List bh)}{w:Val}(ch:Ch (rowsOf (g x) x))(b6:cE (rowsOf (g x) x) c=some w)(t:Val):(lH g).foldl (stepT x c) t=if w=defOf x then t else w:=by
 unfold lH
 rw[List.foldl_append]
 rcases af with rfl|rfl
 ·rw[KC (x:="sc") (y:="ccc") (by decide),B' aU ch,b6]
 ·rw[B' aU ch,b6,KC (x:="ccc") (y:="sc") (by decide)]
theorem Fa:∀{r:List bh},Ch r→∀y∈r,cE r y.1=some y.2
 |[],_,_,h=>by cases h
 |[z],_,y,h=>by simp at h;subst h;rw[gb,jN];simp
 |z::u::r,aU,y,h=>by
  rw[gb]
  rcases List.mem_cons.mp h with rfl|h
  ·rw[m8 fun q bC=>MX aU q bC];simp
  ·rw[Fa aU.b4.2 y h];rfl
theorem xu{x:Str}{ps:List bF}(af:ca x)(aH:∀p∈ps,p.Ok):∀y∈rowsOf (made ps x) x,0≤y.1∧y.1≤top∧y.2∈vals x:=by
 have c:=rR x aH
 intro y aQ
 have ag:=c.le y aQ
 have h0:0≤y.1:=by
  obtain⟨v,t,e⟩:=c.hd
  rw[e] at aQ
  rcases List.mem_cons.mp aQ with rfl|aQ
  ·exact Int.le_refl _
  ·have pw:=lg c.ch
   rw[e,List.map_cons,List.pairwise_cons] at pw
   exact Int.le_of_lt (pw.1 _ (List.mem_map.mpr ⟨y,aQ,rfl⟩))
 refine⟨h0,ag,?_⟩
 have ah:=Fa c.ch y aQ
 rw[rS x aH h0 ag] at ah
 have aE:told ps x y.1=y.2:=Option.some.inj ah
 rw[←aE]
 exact j2 af _ aH
theorem Bz{x:Str}{r:List bh}(ch:Ch r)(h:∀y∈r,0≤y.1∧y.1≤top∧y.2∈vals x)(d:Val):sO x (dD d r):=fun q bC=>by
 have:=(List.mem_filter.mp bC).1
 rw[←xt] at this
 exact xq ch h (by decide) (Int.le_refl _) q this
theorem Kz{x:Str}(af:ca x){r:List bh}(ch:Ch r)(h:∀y∈r,0≤y.1∧y.1≤top∧y.2∈vals x):∀p∈hU x r,p.Ok:=fun p aH=>by
 obtain⟨q,bC,rfl⟩:=List.mem_map.mp aH
 have:=Bz ch h _ q bC
 exact⟨af,this.f0,this.wc,this.wY,this.lt,this.v⟩
theorem Jg{ps:List bF}(aH:∀p∈ps,p.Ok):∀p∈lH (made ps),p.Ok:=fun p h=>by
 rcases List.mem_append.mp h with h|h
 ·exact Kz (.inr rfl) (rR "ccc" aH).ch (xu (.inr rfl) aH) p h
 ·exact Kz (.inl rfl) (rR "sc" aH).ch (xu (.inl rfl) aH) p h
noncomputable def iX(near far:List bF):List bF:=lH (made near)++lH (made far)
section
variable{near far:List bF}(aD:∀p∈near,p.Ok)(hf:∀p∈far,p.Ok)
include aD hf
theorem At:∀p∈iX near far,p.Ok:=fun p h=>(List.mem_append.mp h).elim (Jg aD p) (Jg hf p)
theorem Gn{x:Str}(af:ca x){c:Int}(h0:0≤c)(bg:c≤top):told (iX near far) x c=di near far x c:=by
 rw[WK]
 unfold iX
 rw[List.foldl_append,KD af bg (rR x aD).ch (rS x aD h0 bg),KD af bg (rR x hf).ch (rS x hf h0 bg)]
 unfold di
 by_cases ag:told far x c=defOf x
 ·rw[if_pos ag]
  have wj:¬told far x c≠defOf x:=fun q=>q ag
  rw[if_neg wj]
  by_cases ah:told near x c=defOf x
  ·rw[if_pos ah,ah]
  ·rw[if_neg ah]
 ·rw[if_neg ag]
  have wj:told far x c≠defOf x:=ag
  rw[if_pos wj]
theorem Au{x:Str}(af:ca x):rowsOf (made (iX near far) x) x=hu near far x:=by
 have ok:=At aD hf
 refine(rR x ok).uniq (JG aD hf x) fun c h0 bg=> ?_
 rw[rS x ok h0 bg,Vd aD hf x h0 bg,Gn aD hf af h0 bg]
end
noncomputable def dl(ms:cG):List Str:=(if(cY "ccc" ms).isSome then [("ccc":Str)]else [])++(if(cY "sc" ms).isSome then [("sc":Str)]else [])
theorem V5:∀{ms:cG},(ms.map (·.1)).Nodup→(∀e∈ms,ca e.1)→xK (ms.map (·.1))=some (dl ms)
 |[],_,_=>rfl
 |[(x,p)],_,h=>by
  have ag:ca x:=h (x,p) (by simp)
  rcases ag with rfl|rfl<;>kernel_rfl
 |[(x,p),(y,q)],bk,h=>by
  have ag:ca x:=h (x,p) (by simp)
  have ah:ca y:=h (y,q) (by simp)
  rcases ag with rfl|rfl<;>rcases ah with rfl|rfl
  ·exact absurd (.head _) (List.nodup_cons.mp bk).1
  ·kernel_rfl
  ·kernel_rfl
  ·exact absurd (.head _) (List.nodup_cons.mp bk).1
 |a::b::c::t,bk,h=>by
  have:=Eu bk fun x af=>by obtain⟨e,he,rfl⟩:=List.mem_map.mp af;exact h e he
  simp at this
theorem oP{ms:cG}{x:Str}(h:x∈dl ms):ca x∧∃p,cY x ms=some p:=by
 unfold dl at h
 rcases List.mem_append.mp h with h|h<;>split at h
 ·rename_i q;simp at h;subst h;exact⟨.inr rfl,Option.isSome_iff_exists.mp q⟩
 ·cases h
 ·rename_i q;simp at h;subst h;exact⟨.inl rfl,Option.isSome_iff_exists.mp q⟩
 ·cases h
theorem S3(ms:cG):(e9 ms).map (·.1)=ms.map (·.1):=by unfold e9;rw[List.map_map];rfl
section
variable{lo N:Nat}{H:ao}{aV:Nat}{ms:cG}
theorem B0(h:H[aV]?=some (.aS (e9 ms)))(bk:(ms.map (·.1)).Nodup)(w:∀e∈ms,ca e.1):l5 [.loc aV] H=some (.loc H.length,H++[.list ((dl ms).map .str)]):=
 OF h (by rw[S3,V5 bk w])
theorem No{pr a_}(D:Dat lo N H aV ms pr a_):∃m,gf 461 "maps" (.ins 461 aV) H=some (.loc m)∧H[m]?=some (.aS (e9 ms))∧lo≤m∧l5 [.loc m] H=some (.loc H.length,H++[.list ((dl ms).map .str)]):=by
 obtain⟨dd,m,p,w,E⟩:=D.ex
 exact⟨m,E.iQ,E.eQ,E.bm,B0 E.eQ D.ju fun e he=>(D.i0 e he).1⟩
theorem nH:(dl ms).length≤2:=by unfold dl;rw[List.length_append];split<;>split<;>decide
structure io(B:ao)(aV:Nat)(ps:List bF)(H:ao):Prop where
 ex:∃ms,Dat B.length (1+2*ps.length) H aV ms [] []∧∀z,bO ms z=made ps z
 x:Ext B H
theorem io.ext{B:ao}{ps:List bF}{H':ao}(bD:io B aV ps H)(x:Ext H H'):io B aV ps H':=match bD with|⟨⟨ms,D,aZ⟩,y⟩=>⟨⟨ms,D.keep x.keep,aZ⟩,y.trans x⟩
theorem io.put{G:Prop}{B:ao}{ps:List bF}{x:Str}{r:eG}(bD:io B aV ps H)(af:ca x)(ok:pa x r)(hz:ps.length≤400)(k:∀H',nT [.ins 461 aV, .str x, .int r.1, .int r.2.1,r.2.2.v] H=some (.none,H')→io B aV (ps++[nI x r]) H'→o5 H H'→(∃dd m p w,H[aV]?=some (.aS [("defaults", .loc dd),("maps", .loc m),("properties", .loc p),("words", .loc w)]))→G):G:=by
 obtain⟨⟨ms,D,aZ⟩,y⟩:=bD
 refine DY (f:=r.1) (la:=r.2.1) (v:=r.2.2) D af (Nat.le_add_right ..) (Nat.le_trans (Nat.add_le_add_left (Nat.mul_le_mul_left 2 hz) 1) (by decide)) y.len ok.f0 ok.lt fun aG kK cM dc Q9 Rw _ gT Az=> ?_
 refine k aG cM ⟨⟨kK,by rw[List.length_append];exact dc,fun z=> ?_⟩,fun j m h=>(gT j (fO h)).trans (y j m h)⟩ Az (match D.ex with|⟨_,_,_,_,E⟩=>⟨_,_,_,_,E.go⟩)
 unfold made;rw[List.foldl_append]
 show bO kK z=if z=x then some (ih (rowsOf (made ps x) x) r.1 r.2.1 r.2.2)else made ps z
 by_cases hz:z=x
 ·rw[if_pos hz,hz,Q9,aZ];rfl
 ·rw[if_neg hz,Rw z hz,aZ]
theorem join_rows{B dR:ao}{it:fH}{i5:List bF}{x:Str}{rows:List eG}{L:Nat}{σ:aN}{R:b9}{K:Out→Prop}(hit:it σ dR=some (i2 L,H))(bD:io B aV i5 H)(bH:H[L]?=some (.list (rows.map cv)))
 (af:ca x) (kC:sO x rows) (hz:i5.length+rows.length≤400) (ah:σ 2=some (.ins 461 aV)) (a7:σ 4=some (.str x))
 (k:∀ba H',(∀j,j<5→ba j=σ j)→io B aV (i5++rows.map (nI x)) H'→o5 H H'→Run (R ba H') K):
 Run (aq (dz it (gM [5,6,7]) (aq (c8 (b5 (cI 461 "put" nT) (aa 2) [(aa 4),(aa 5),(aa 6),(aa 7)])) aI)) R σ dR) K:=by
 refine fB hit rows.length (Nat.le_trans (Nat.le_add_left ..) (Nat.le_trans hz (by decide))) (fun i ba H'=>(∀j,j<5→ba j=σ j)∧io B aV (i5++(rows.take i).map (nI x)) H'∧o5 H H') ⟨fun _ _=>rfl,by rw[List.take_zero,List.map_nil,List.append_nil];exact bD,fun _ _ h=>h⟩ (fun i b3 H1 hi I=> ?_) (fun b3 H1 I=>dJ (I.2.2 L _ bH) (List.getElem?_eq_none (Nat.le_of_eq (List.length_map _)))) fun b3 H1 I=>k b3 H1 I.1 (by have:=I.2.1;rwa[List.take_length] at this) I.2.2
 have lB:rows[i]?=some rows[i]:=List.getElem?_eq_getElem hi
 refine I.2.1.put af (kC _ (List.getElem_mem hi)) (by rw[List.length_append,List.length_map];exact Nat.le_trans (Nat.add_le_add_left (List.length_take_le' ..) _) hz) fun aG cM hA Az ⟨_,_,_,_,g⟩=> ?_
 refine .mk (v:=cv rows[i]) (dJ (I.2.2 L _ bH) (by rw[List.getElem?_map,lB];rfl)) rfl (ge (dM (ae ((I.1 2 (by decide)).trans ah)) (jX g (by kernel_rfl)) (ak (ae ((I.1 4 (by decide)).trans a7)) (ak (ae rfl) (ak (ae rfl) (ak (ae rfl) aJ)))) cM) (ez ⟨fun j bM=> ?_,?_,fun j xs h=>Az j xs (I.2.2 j xs h)⟩))
 ·refine Eq.trans ?_ (I.1 j bM)
  show upd (upd (upd b3 5 _) 6 _) 7 _ j=_
  rw[m6,if_neg (Nat.ne_of_lt (Nat.lt_trans bM (by decide))),m6,if_neg (Nat.ne_of_lt (Nat.lt_trans bM (by decide))),m6,if_neg (Nat.ne_of_lt bM)]
 ·rw[hR lB,List.map_append,←List.append_assoc];exact hA
end
theorem WI(x:Str):hU x [(0,defOf x)]=[]:=by unfold hU dD dj;simp
noncomputable def mm(g:Str→Option (List bh))(ks:List Str):List bF:=ks.flatMap fun x=>hU x (rowsOf (g x) x)
theorem xk{ms:cG}{g:Str→Option (List bh)}(h:∀z,bO ms z=g z):mm g (dl ms)=lH g:=by
 have cZ:∀x,(cY x ms).isSome=false→hU x (rowsOf (g x) x)=[]:=fun x af=>by
  rw[←h]
  unfold bO
  cases au:cY x ms with
  |none=>exact WI x
  |some q=>rw[au] at af;cases af
 unfold mm lH dl
 rw[List.flatMap_append]
 congr 1
 ·by_cases q:(cY ("ccc":Str) ms).isSome=true
  ·rw[if_pos q];simp
  ·rw[if_neg q,cZ _ (by simpa using q)];rfl
 ·by_cases q:(cY ("sc":Str) ms).isSome=true
  ·rw[if_pos q];simp
  ·rw[if_neg q,cZ _ (by simpa using q)];rfl
theorem uA{ms:cG}{lo N:Nat}{H:ao}{aV:Nat}{pr a_}(D:Dat lo N H aV ms pr a_){g:Str→Option (List bh)}(h:∀z,bO ms z=g z)(cb:1≤N):∀ks:List Str,(∀x∈ks,ca x)→(mm g ks).length≤ks.length*N
 |[],_=>by simp[mm]
 |x::ks,aB=>by
  have aK:=uA D h cb ks fun y aQ=>aB y (List.mem_cons_of_mem _ aQ)
  unfold mm at aK⊢
  rw[List.flatMap_cons,List.length_append,List.length_cons,Nat.add_mul,Nat.one_mul]
  have ag:(hU x (rowsOf (g x) x)).length≤(rowsOf (g x) x).length:=by
   unfold hU dD;rw[List.length_map]
   exact Nat.le_trans (List.length_filter_le ..) (by rw[nE];exact Nat.le_refl _)
  have ah:(rowsOf (g x) x).length≤N:=by
   rw[←h];unfold bO rowsOf
   cases au:cY x ms with
   |none=>simpa using cb
   |some q=>obtain⟨_,a,b,_,_,aD,_⟩:=D.at (l:=q.1) (r:=q.2) au;exact aD
  omega
section
variable{H:ao}{aV:Nat}
theorem RZ{B dR:ao}{it:fH}{i5 i6:List bF}{gW:cG}{ub u1 vh:Nat}{σ:aN}{R:b9}{K:Out→Prop}(hit:it σ dR=some (i2 vh,H))(bD:io B aV i5 H)
 (O:Dat ub (1+2*i6.length) B u1 gW [] []) (tU:∀z,bO gW z=made i6 z) (uq:∀p∈i6,p.Ok) (bH:H[vh]?=some (.list ((dl gW).map .str)))
 (hz:i5.length+2*(1+2*i6.length)≤400) (ah:σ 2=some (.ins 461 aV)) (aE:σ 3=some (.ins 461 u1))
 (k:∀ba H',(∀j,j<4→ba j=σ j)→io B aV (i5++lH (made i6)) H'→Run (R ba H') K):
 Run (aq (dz it (cx 4) (aq (dz (cP (b5 (cI 139 "ranges" nU) (bG (bp 461 "maps" (aa 3)) (aa 4)) [])) (gM [5,6,7]) (aq (c8 (b5 (cI 461 "put" nT) (aa 2) [(aa 4),(aa 5),(aa 6),(aa 7)])) aI)) aI)) R σ dR) K:=by
 refine fB hit (dl gW).length (Nat.le_trans nH (by decide)) (fun i ba H'=>(∀j,j<4→ba j=σ j)∧io B aV (i5++mm (made i6) ((dl gW).take i)) H'∧o5 H H') ⟨fun _ _=>rfl,by rw[List.take_zero];unfold mm;rw[List.flatMap_nil,List.append_nil];exact bD,fun _ _ h=>h⟩ (fun i b3 H1 hi I=> ?_) (fun b3 H1 I=>dJ (I.2.2 vh _ bH) (List.getElem?_eq_none (Nat.le_of_eq (List.length_map _)))) fun b3 H1 I=>k b3 H1 I.1 (by have:=I.2.1;rwa[List.take_length,xk tU] at this)
 obtain⟨a1,g8,rG⟩:=I
 have kF:(dl gW)[i]?=some (dl gW)[i]:=List.getElem?_eq_getElem hi
 obtain⟨af,⟨l,r⟩,au⟩:=oP (List.getElem_mem hi)
 generalize (dl gW)[i]=x at*
 have CI:=O.keep g8.x.keep
 obtain⟨_,a,b,M⟩:=CI.at au
 obtain⟨dd,m,p,w,E⟩:=CI.ex
 have tS:=mr x gW
 rw[au] at tS
 have FE:rowsOf (made i6 x) x=r:=by rw[←tU];unfold bO;rw[au];rfl
 have FY:mm (made i6) ((dl gW).take (i+1))=mm (made i6) ((dl gW).take i)++hU x r:=by
  unfold mm;rw[hR kF,List.flatMap_append,List.flatMap_cons,FE,List.flatMap_nil,List.append_nil]
 have FM:=Nat.le_trans (uA O tU (Nat.le_add_right ..) ((dl gW).take (i+1)) fun z hz=>(oP (List.mem_of_mem_take hz)).1) (Nat.mul_le_mul_right _ (Nat.le_trans (List.length_take_le' ..) nH))
 rw[FY,List.length_append,show(hU x r).length=(dD (defOf x) r).length from List.length_map _] at FM
 have bu:r.length≤1000:=Nat.le_trans M.nn (Nat.le_trans (by rw[Nat.two_mul] at hz;exact Nat.le_trans (Nat.le_add_left ..) (Nat.le_trans (Nat.le_add_left ..) hz)) (show 400≤1000 by decide))
 have om:=y_ M.ea bu
 have a6:=Ext.app (H:=H1) [aM.list ((dj r).map cv), .list ((dD (defOf x) r).map cv)]
 have jq:(H1++[aM.list ((dj r).map cv), .list ((dD (defOf x) r).map cv)])[H1.length+1]?=some (.list ((dD (defOf x) r).map cv)):=by
  rw[List.getElem?_append_right (Nat.le_add_right ..),Nat.add_sub_cancel_left];rfl
 generalize H1++[aM.list ((dj r).map cv), .list ((dD (defOf x) r).map cv)]=aG at*
 refine .mk (v:= .str x) (dJ (rG vh _ bH) (by rw[List.getElem?_map,kF];rfl)) rfl (join_rows (el (dM (cm (bZ (ae ((a1 3 (by decide)).trans aE)) E.iQ) (ae rfl) (gw E.eQ tS)) (jX M.ea.o (by kernel_rfl)) aJ om) (fo jq)) (g8.ext a6) jq af (Bz M.iz.ch (by rw[←FE];exact xu af uq) _) ?_ ((a1 2 (by decide)).trans ah) rfl fun gy H3 a2 kf R8=>ez ⟨fun j bM=> ?_,?_,fun j xs h=>R8 j xs (a6.R5 j xs (rG j xs h))⟩)
 ·rw[List.length_append,Nat.add_assoc];exact Nat.le_trans (Nat.add_le_add_left FM _) hz
 ·refine(a2 j (Nat.lt_succ_of_lt bM)).trans (Eq.trans (if_neg (Nat.ne_of_lt bM)) (a1 j bM))
 ·rw[FY,←List.append_assoc];exact kf
end
section
variable{H:ao}
theorem join_one{B:ao}{H1:ao}{aV:Nat}{i5 i6:List bF}{gW:cG}{ub u1:Nat}{σ:aN}(bD:io B aV i5 H1)(O:Dat ub (1+2*i6.length) B u1 gW [] [])(tU:∀z,bO gW z=made i6 z)(uq:∀p∈i6,p.Ok)
 (hz:i5.length+2*(1+2*i6.length)≤400) (ah:σ 2=some (.ins 461 aV)) (aE:σ 3=some (.ins 461 u1)) {I:aN→ao→Prop} {K:Out→Prop} (k:∀ba H',(∀j,j<4→ba j=σ j)→io B aV (i5++lH (made i6)) H'→I ba H'):
 Run ((aq (dz (cP (aO l5 [(bp 461 "maps" (aa 3))])) (cx 4) (aq (dz (cP (b5 (cI 139 "ranges" nU) (bG (bp 461 "maps" (aa 3)) (aa 4)) [])) (gM [5,6,7]) (aq (c8 (b5 (cI 461 "put" nT) (aa 2) [(aa 4),(aa 5),(aa 6),(aa 7)])) aI)) aI)) (aq (q_ (bp 461 "properties" (aa 3))) (aq (q_ (bp 461 "words" (aa 3))) aI))) σ H1) (ip I K):=by
 obtain⟨m,zV,X7,_,aY⟩:=No (O.keep bD.x.keep)
 refine RZ (el (bf (ak (bZ (ae aE) zV) aJ) aY) (fo bP)) (bD.ext (.app _)) O tU uq bP hz ah aE fun ba H' a jg=> ?_
 obtain⟨dd,m',p,w,E⟩:=(O.keep jg.x.keep).ex
 have s3:=(a 3 (by decide)).trans aE
 exact Jp (bZ (ae s3) E.vt) (.inl E.hj) (Jp (bZ (ae s3) E.Dh) (.inr E.gm) (ez (k ba H' a jg)))
theorem Ux{lo:Nat}{ps:List bF}{ms:cG}{l:Nat}(D:Dat lo (1+2*ps.length) H l ms [] [])(aZ:∀z,bO ms z=made ps z)(z:ps.length≤20):(lH (made ps)).length≤82:=by
 have ag:=uA D aZ (Nat.le_add_right ..) (dl ms) fun x af=>(oP af).1
 rw[xk aZ] at ag
 exact Nat.le_trans ag (Nat.mul_le_mul nH (Nat.add_le_add_left (Nat.mul_le_mul_left 2 z) 1))
theorem NK{G:Prop}{near far:List bF}{w4 gW:cG}{dI dS SQ ub:Nat}(B:Dat SQ (1+2*near.length) H dI w4 [] [])(dh:∀z,bO w4 z=made near z)(Ug:∀p∈near,p.Ok)
 (O:Dat ub (1+2*far.length) H dS gW [] []) (lw:∀z,bO gW z=made far z) (uq:∀p∈far,p.Ok) (Lj:near.length≤20) (XM:far.length≤20)
 (k:∀H' ms,sE [.ins 461 dI, .ins 461 dS] H=some (.ins 461 H.length,H')→Dat H.length (1+2*(iX near far).length) H' H.length ms [] []→(∀z,bO ms z=made (iX near far) z)→Ext H H'→G):G:=by
 refine Ed (H:=H) fun H1 bY dY a6=> ?_
 have ja:∀{n m:Nat},n≤82→m≤20→n+2*(1+2*m)≤400:=fun a b=>Nat.le_trans (Nat.add_le_add a (Nat.mul_le_mul_left 2 (Nat.add_le_add_left (Nat.mul_le_mul_left 2 b) 1))) (by decide)
 obtain⟨⟨_,H'⟩,e,rfl,⟨ms,D,aZ⟩,x⟩:Run (sE [.ins 461 dI, .ins 461 dS] H) fun p=>p.1= .ins 461 H.length∧io H H.length (iX near far) p.2:=by
  refine cu (cq (bf aJ bY) (fB (el (et (ak (ae rfl) (ak (ae rfl) aJ)) (show 2≤1000 by decide)) rfl) 2 (by decide) (fun i σ H'=>σ 1=some (.ins 461 dS)∧σ 2=some (.ins 461 H.length)∧io H H.length (match i with|0=>[]|1=>lH (made near)|_=>iX near far) H') ⟨rfl,rfl,⟨_,dY,fun _=>rfl⟩,a6⟩ ?_ (fun _ _ _=>rfl) fun σ H' I=>cN (ae I.2.1) ⟨rfl,I.2.2⟩)) rfl
  rintro i σ H' hi ⟨s1,s2,bD⟩
  match i,hi,bD with
  |0,_,bD=>exact .mk (v:= .ins 461 dI) rfl rfl (join_one (σ:=upd σ 3 (.ins 461 dI)) bD B dh Ug (ja (Nat.zero_le _) Lj) s2 rfl fun ba H' a jg=>⟨(a 1 (by decide)).trans s1,(a 2 (by decide)).trans s2,jg⟩)
  |1,_,bD=>exact .mk (v:= .ins 461 dS) rfl rfl (join_one (σ:=upd σ 3 (.ins 461 dS)) bD O lw uq (ja (Ux B dh Lj) XM) s2 rfl fun ba H' a jg=>⟨(a 1 (by decide)).trans s1,(a 2 (by decide)).trans s2,jg⟩)
 exact k H' ms e D aZ x
end
structure Ls(n:Nat)(H:ao)(dk c:Nat)(xs:List Int)(m:Int):Prop where
 dA:H[dk]?=some (.aS [("cells", .loc c),("mixed", .int m)])
 iD:H[c]?=some (.list (xs.map .int))
 lY:dk<n
 q0:c<n
 le:xs.length≤30
 m0:0≤m
 gH:m<2147483647
structure h1(n:Nat)(H:ao)(dk:Nat):Prop where
 ex:∃c xs m,Ls n H dk c xs m
theorem N2{H:ao}{i j:Nat}{l:List Int}(au:H[i]?=some (.list (l.map .int)))(bM:H[j]?=some (.list [])):vEq H (.loc i) (.loc j)=some (decide (l=[])):=by
 have aU:∀l:List Int,PyData.canLayAll0 (l.map .int)=true∧PyData.depthAll (l.map .int)=0:=by
  intro l
  induction l with
  |nil=>exact⟨rfl,rfl⟩
  |cons z l aK=>exact⟨aK.1,(congrArg (max 0) aK.2).trans rfl⟩
 refine(py ((ed.list (k:=0) (g:=PyData.int) au fun x _=>ed.int) 8 (by decide)) (qu bM) (Bool.and_eq_true_iff.mpr ⟨(aU l).1,decide_eq_true (show PyData.depthAll _+1≤64 by rw[(aU l).2];decide)⟩) rfl).trans ?_
 cases l<;>rfl
theorem tz(a:Int){k:Int}(aB:0<k):0≤a.fmod k∧a.fmod k<k:=⟨Int.fmod_nonneg_of_pos a aB,Int.fmod_lt_of_pos a aB⟩
section
variable{H:ao}{n dk:Nat}
theorem h1.ext{H':ao}(D:h1 n H dk)(x:Ext H H'):h1 n H' dk:=match D.ex with|⟨c,xs,m,E⟩=>⟨c,xs,m,x _ _ E.dA,x _ _ E.iD,E.lY,E.q0,E.le,E.m0,E.gH⟩
theorem ol{G:Prop}(D:h1 n H dk)(aD:n≤H.length){k:Int}(aB:0<k)(q:∀r H',je [.loc dk, .int k] H=some (.int r,H')→0≤r→r<k→h1 n H' dk→H.length≤H'.length→h4 n H H'→G):G:=by
 obtain⟨c,xs,m,E⟩:=D.ex
 have tR:k≠0:=fun e=>Int.lt_irrefl 0 (e▸aB)
 have a6:=Ext.app (H:=H) [aM.list []]
 have FS:vEq (H++[.list []]) (.loc c) (.loc H.length)=some (decide (xs=[])):=N2 (a6 _ _ E.iD) bP
 have test:bq .NotEq (bG (aa 0) (aj (.str "cells"))) (dList []) (f_ [.loc dk, .int k]) H=some (!decide (xs=[]),H++[.list []]):=bV (cm (ae rfl) aF (gw E.dA (by kernel_rfl))) (d4 aJ (Nat.zero_le _)) (congrArg (Option.map _) FS)
 have cr:=a6.len
 have dA:=a6 _ _ E.dA
 have iD:=a6 _ _ E.iD
 clear FS
 generalize H++[aM.list []]=H1 at*
 rcases List.eq_nil_or_concat xs with rfl|⟨ci,z,e⟩
 ·have zV:m.natAbs<2^31∧(16807:Int).natAbs<2^31:=⟨Hn E.m0 (Int.lt_trans E.gH (by decide)),by decide⟩
  obtain⟨f1,f2⟩:=tz (m*16807+29) (k:=2147483647) (by decide)
  obtain⟨kv,f4⟩:=tz (((m*16807+29).fmod 2147483647).fdiv 64) aB
  have dB:c≠dk:=fun e=>by have:=E.iD;rw[e,E.dA] at this;cases this
  have st:∀v:V,nL (.loc dk) (.str "mixed") v H1=some (H1.set dk (.aS [("cells", .loc c),("mixed",v)])):=fun v=>(qC dA (show 2≤1000 by decide)).trans (by kernel_rfl)
  have vs:f5 (.loc dk) (.str "mixed") (H1.set dk (.aS [("cells", .loc c),("mixed", .int ((m*16807+29).fmod 2147483647))]))=some (.int ((m*16807+29).fmod 2147483647)):=gw (fQ dA) (by kernel_rfl)
  refine q _ _ (Run.is (cu (c6 test (jW (cT (cT (cT (cm (ae rfl) aF (gw dA (by kernel_rfl))) aF (qZ zV)) aF rfl) aF (sY (by decide))) (ae rfl) aF (st _) (cN (cT (cT (cm (ae rfl) aF vs) aF rfl) (ae rfl) (sY tR)) rfl))) rfl)) kv f4 ⟨c,[],_,fQ dA,(List.getElem?_set_ne dB.symm).trans iD,E.lY,E.q0,Nat.zero_le _,f1,f2⟩ (by rw[List.length_set];exact cr) (a6.toN.trans (.low E.lY))
 ·rw[List.concat_eq_append] at e
  subst e
  obtain⟨kv,f4⟩:=tz z aB
  have dB:c≠dk:=fun e=>by have:=E.iD;rw[e,E.dA] at this;cases this
  have hz:=E.le
  rw[List.length_append] at hz
  rw[decide_eq_false (by rw[List.append_eq_nil_iff];exact fun q=>nomatch q.2)] at test
  rw[List.map_append] at iD
  exact q _ _ (Run.is (cu (fs test (cN (cT (dM (cm (ae rfl) aF (gw dA (by kernel_rfl))) (kR iD) aJ (OD iD (by rw[List.length_append,List.length_map];exact Nat.le_trans hz (by decide)))) (ae rfl) (sY tR)) rfl)) rfl)) kv f4 ⟨c,ci,m,(List.getElem?_set_ne dB).trans dA,fQ iD,E.lY,E.q0,Nat.le_trans (Nat.le_add_right ..) hz,E.m0,E.gH⟩ (by rw[List.length_set];exact cr) (a6.toN.trans (.low E.q0))
end
section
variable{H:ao}
theorem zo{α:Type}(l:List α):l.filter (fun _=>true)=l:=List.filter_eq_self.mpr fun _ _=>rfl
theorem NM{G:Prop}(ad:Addr)(ns:List Int)(k:∀dk H',sF ad ns [.st (.ref ad)] H=some (.loc dk,H')→h1 H'.length H' dk→G):G:=by
 have hlen:(ns.take 30).length≤30:=List.length_take_le ..
 have sc:y1 0 ad ns (f_ [.st (.ref ad)]) H=some (.loc H.length,H++[.list ((ns.take 30).map .int)]):=if_pos rfl
 generalize ns.take 30=xs at*
 have bY:=oh (as:=xs) (F:= .int) (σ:=f_ [.st (.ref ad)]) (caps:=[]) (j:=1) (Ti:=eY) (De:=bI .Mod (aO zb [(aa 1)]) (aj (.int 1000003))) (fun _=>true) (fun x=> .int (x.fmod 1000003)) (el sc (fo bP)) (fun i G e=>dJ (e _ _ bP) rfl) rfl (Nat.le_trans hlen (by decide)) fun x _ cJ G e t1 _=>⟨rfl,fun _=>cT (bf (ak (ae t1) aJ) rfl) aF (sY (by decide))⟩
 rw[zo,show xs.map (fun x=>V.int (x.fmod 1000003))=(xs.map fun x=>x.fmod 1000003).map .int from(List.map_map ..).symm] at bY
 have az:∀z∈xs.map fun x:Int=>x.fmod 1000003,0≤z∧z<1000003:=fun z hz=>by
  obtain⟨w,_,rfl⟩:=List.mem_map.mp hz
  exact tz w (by decide)
 have pU:(xs.map fun x:Int=>x.fmod 1000003).length≤30:=by rw[List.length_map];exact hlen
 generalize xs.map (fun x:Int=>x.fmod 1000003)=ci at*
 have rm:(H++[aM.list (xs.map .int)]++[aM.list (ci.map .int)])[(H++[aM.list (xs.map .int)]).length]?=_:=bP
 generalize H++[aM.list (xs.map .int)]++[aM.list (ci.map .int)]=dR at*
 generalize (H++[aM.list (xs.map .int)]).length=ob at*
 obtain⟨⟨_,H'⟩,e,dk,rfl,D⟩:Run (sF ad ns [.st (.ref ad)] H) fun p=>∃dk,p.1= .loc dk∧h1 p.2.length p.2 dk:=by
  refine cu (qf (et (ak bY (ak aF aJ)) (show 2≤1000 by decide)) rfl (fB (el (ae rfl) (fo rm)) ci.length (Nat.le_trans pU (by decide)) (fun i σ H'=>σ 2=some (.loc ob)∧H'=dR∧∃m:Int,σ 3=some (.int m)∧0≤m∧m<1000003) ⟨rfl,rfl,11,rfl,by decide,by decide⟩ ?_ ?_ ?_)) rfl
  ·rintro i σ _ hi ⟨s2,rfl,m,s3,m0,gH⟩
   have hz:ci[i]?=some ci[i]:=List.getElem?_eq_getElem hi
   obtain⟨f1,f2⟩:=tz (m*31+ci[i]) (k:=1000003) (by decide)
   exact .mk (v:= .int ci[i]) (dJ rm (by rw[List.getElem?_map,hz];rfl)) rfl (cq (cT (cT (cT (ae s3) aF (qZ ⟨Hn m0 (Int.lt_trans gH (by decide)),by decide⟩)) (ae rfl) rfl) aF (sY (by decide))) (ez ⟨s2,rfl,_,rfl,f1,f2⟩))
  ·rintro σ _ ⟨_,rfl,_⟩
   exact dJ rm (List.getElem?_eq_none (Nat.le_of_eq (List.length_map _)))
  ·rintro σ dR ⟨s2,rfl,m,s3,m0,gH⟩
   have f3:=sk (lo:=none) (hi:=none) (st:=some (-1)) (Ext.app [aM.aS []] _ _ rm) (by rw[List.length_map];exact Nat.le_trans pU (by decide))
   rw[Uo] at f3
   have g2:=bP (H:=dR++[aM.aS [("cells", .loc (dR.length+1)),("mixed", .int m)]]) (m:= .list (ci.reverse.map .int))
   rw[List.length_append] at g2
   exact cN ((Nz (ak (l2 (ae s2) gR gR (l1 (oi aF)) f3) (ak (ae s3) aJ))).trans (by rw[List.length_append,List.map_reverse];kernel_rfl)) ⟨_,rfl,_,ci.reverse,m,Ext.app _ _ _ bP,g2,fO (Ext.app _ _ _ bP),fO g2,by rw[List.length_reverse];exact pU,m0,Int.lt_trans gH (by decide)⟩
 exact k dk H' e D
noncomputable def points:List Int:=[0,1,5,127,128,55295,55296,65535,65536,1114111]
theorem Cb{α:Type}{as:List α}(F:α→V){r:Int}(h0:0≤r)(ag:r<(as.length:Int))(hz:as.length≤100):∃p∈as,∀H,f5 (.tup (as.map F)) (.int r) H=some (F p):=by
 obtain⟨n,rfl⟩:=Int.eq_ofNat_of_zero_le h0
 have aD:=Int.ofNat_lt.mp ag
 exact⟨as[n],List.getElem_mem aD,fun H=>oS (by rw[List.getElem?_map,List.getElem?_eq_getElem aD];rfl) (Nat.lt_trans aD (Nat.lt_of_le_of_lt hz (by decide)))⟩
theorem I'{r:Int}(h0:0≤r)(ag:r<10):∃p:Int,(∀H,f5 (.tup [.int 0, .int 1, .int 5, .int 127, .int 128, .int 55295, .int 55296, .int 65535, .int 65536, .int 1114111]) (.int r) H=some (.int p))∧0≤p∧p≤top:=by
 obtain⟨p,aH,h⟩:=Cb (as:=points) .int h0 ag (by decide)
 exact⟨p,h,(show∀p∈points,0≤p∧p≤top by decide) p aH⟩
theorem Xu{r:Int}(h0:0≤r)(ag:r<2):∃x:Str,ca x∧∀H,f5 (.tup [.str "sc", .str "ccc"]) (.int r) H=some (.str x):=by
 obtain⟨p,aH,h⟩:=Cb (as:=(["sc","ccc"]:List Str)) .str h0 ag (by decide)
 exact⟨p,by rcases List.mem_cons.mp aH with e|e;exact .inl e;exact .inr (List.mem_singleton.mp e),h⟩
theorem Xd{x:Str}(af:ca x){r:Int}(h0:0≤r)(ag:r<4):∃v∈vals x,∀H,f5 (.tup ((vals x).map Val.v)) (.int r) H=some v.v:=
 have z:(vals x).length=4:=by rcases af with rfl|rfl<;>rfl
 Cb Val.v h0 (by rw[z];exact ag) (by rw[z];decide)
end
section
variable{H:ao}{n dk:Nat}
theorem h1.set(D:h1 n H dk){l:Nat}(au:n≤l)(o:aM):h1 n (H.set l o) dk:=match D.ex with
 |⟨c,xs,m,E⟩=>⟨c,xs,m,(List.getElem?_set_ne (Nat.ne_of_gt (Nat.lt_of_lt_of_le E.lY au))).trans E.dA,(List.getElem?_set_ne (Nat.ne_of_gt (Nat.lt_of_lt_of_le E.q0 au))).trans E.iD,E.lY,E.q0,E.le,E.m0,E.gH⟩
theorem h4.nG{H':ao}{l:Nat}{m:aM}(x:h4 n H H')(h:H.length≤l):h4 n H (H'.set l m):=fun j o b q=>(List.getElem?_set_ne (Nat.ne_of_gt (Nat.lt_of_lt_of_le (fO q) h))).trans (x j o b q)
theorem Oc{G:Prop}{σ:aN}(D:h1 n H dk)(aD:n≤H.length)(h0:σ 0=some (.loc dk))
 (k:∀dT dC H',ef [(4,0)] (q' (aj (.int 2))) (cx 1) eY (bG (aj (.tup [.int 0, .int 1, .int 5, .int 127, .int 128, .int 55295, .int 55296, .int 65535, .int 65536, .int 1114111])) (aO je [(aa 4),(aj (.int 10))])) σ H=some (.loc H.length,H')→
  H'[H.length]?=some (.list [.int dT, .int dC])→0≤dT→dT≤top→0≤dC→dC≤top→h1 n H' dk→h4 n H H'→G):G:=by
 have x0:=Ext.app (H:=H) [aM.list []]
 refine ol (D.ext x0) (Nat.le_trans aD x0.len) (k:=10) (by decide) fun bl H1 bY a1 dn dY cr a6=> ?_
 obtain⟨dT,v1,ha,cC⟩:=I' a1 dn
 have g1:=a6 _ _ aD bP
 have XG:=x0.toN.trans a6
 refine ol (dY.set aD (.list [.int dT])) (by rw[List.length_set];exact Nat.le_trans aD (Nat.le_of_lt (fO g1))) (k:=10) (by decide) fun bN aG cM a2 dU dc dH bj=> ?_
 obtain⟨dC,v2,fa,gQ⟩:=I' a2 dU
 have g2:=bj _ _ aD (fQ g1)
 refine k dT dC (aG.set H.length (.list [.int dT, .int dC])) ?_ (fQ g2) ha cC fa gQ (dc.set aD _) (((XG.nG (Nat.le_refl _)).trans bj).nG (Nat.le_refl _))
 have ob:[(4,0)].all (fun p=>(σ p.2).isSome)=true:=by show((σ 0).isSome&&true)=true;rw[h0];rfl
 exact D5 (Gb (n:=2) aF (by decide)) ob (show jm (um 2) (cx 1) eY _ H.length (1999997+1+1+1) 0 (hF [(4,0)] σ) (H++[.list []])=_ from
  Eq.trans (s9 (v:= .int 0) rfl rfl rfl (cm aF (bf (ak (ae (i:=4) h0) (ak aF aJ)) bY) (v1 _)) g1 (Nat.zero_le _)) (Eq.trans (s9 (v:= .int 1) rfl rfl rfl (cm aF (bf (ak (ae (i:=4) h0) (ak aF aJ)) cM) (v2 _)) g2 (show 1≤1000000 by decide)) (yP rfl)))
structure CM(n:Nat)(H:ao)(dk i:Nat)(ps:List bF)(σ:aN)(H':ao):Prop where
 s0:σ 0=some (.loc dk)
 s2:σ 2=some (.loc H.length)
 D:h1 n H' dk
 x:h4 n H H'
 len:ps.length=i
 ok:∀p∈ps,p.Ok
 g:H'[H.length]?=some (.list (ps.map bF.V))
theorem Eh{G:Prop}(D:h1 n H dk)(aD:n≤H.length){many:Nat}(hm:many≤100)(k:∀(H':ao) (ps:List bF),o1 [.loc dk, .int many] H=some (.loc H.length,H')→ps.length=many→(∀p∈ps,p.Ok)→H'[H.length]?=some (.list (ps.map bF.V))→
 h1 n H' dk→h4 n H H'→G):G:=by
 have wD:(if(0:Int)<many then(many:Int)else 0)=many:=by
  split
  ·rfl
  ·rename_i h;exact Int.le_antisymm (Int.natCast_nonneg _) (Int.not_lt.mp h)
 have aZ:∀{σ:aN} {H:ao},σ 1=some (.int many)→q' (aa 1) σ H=some (um many,H):=fun h=>wD▸Gb (ae h) (Nat.lt_of_le_of_lt hm (by decide))
 obtain⟨⟨_,H'⟩,e,rfl,σ,ps,I⟩:Run (o1 [.loc dk, .int many] H) fun p=>p.1= .loc H.length∧∃σ ps,CM n H dk many ps σ p.2:=by
  refine cu (cq (d4 aJ (Nat.zero_le _)) (fB (aZ rfl) many (Nat.le_trans hm (by decide)) (fun i σ H'=>∃ps,CM n H dk i ps σ H') ⟨[],⟨rfl,rfl,D.ext (.app _),(Ext.app _).toN,rfl,fun p aH=>(nomatch aH),bP⟩⟩ ?_ ?_ fun σ H' ⟨ps,I⟩=>cN (ae I.s2) ⟨rfl,σ,ps,I⟩)) rfl
  ·rintro i σ H1 hi ⟨ps,s0,s2,dY,a6,kD,ok,g1⟩
   have cr:=Nat.le_of_lt (fO g1)
   refine ol dY (Nat.le_trans aD cr) (k:=2) (by decide) fun bl aG bY a1 dn dc dH bj=> ?_
   obtain⟨x,af,v1⟩:=Xu a1 dn
   refine Oc (σ:=upd (upd σ 3 (.int i)) 4 (.str x)) dc (Nat.le_trans aD (Nat.le_trans cr dH)) s0 fun dT dC H3 cM g3 ha fa q5 oc lP cc=> ?_
   have hX:=Ext.app (H:=H3) [aM.aS gK]
   have fL:(H3++[aM.aS gK])[H3.length]?=_:=bP
   have eg:=Nat.le_of_lt (fO g3)
   refine ol (lP.ext hX) (Nat.le_trans (Nat.le_trans aD (Nat.le_trans cr dH)) (Nat.le_trans eg hX.len)) (k:=4) (by decide) fun i7 cW fY f9 oa oV gG dK=> ?_
   obtain⟨v,aR,v4⟩:=Xd af f9 oa
   have K_:=((bj.trans cc).trans hX.toN).trans dK
   have Pb:=cc _ _ aD (bj _ _ aD g1)
   have fy:=K_ _ _ aD g1
   refine .mk (v:= .int i) (show some (if(i:Int)<many then some (V.int i)else none)=_ by rw[if_pos (Int.ofNat_lt.mpr hi)]) rfl (cq (cm (et (ak aF (ak aF aJ)) (show 2≤1000 by decide)) (bf (ak (ae s0) (ak aF aJ)) bY) (v1 _)) (xn cM (show gM [5,6] (.loc aG.length) _ H3=some (upd (upd (upd (upd σ 3 (.int i)) 4 (.str x)) 5 (.int dT)) 6 (.int dC))from bi (li g3) (if_pos rfl)) ?_))
   refine ge (dM (ae s2) (kR Pb) (ak (et (ak (ae rfl) (ak (ae rfl) (ak (ae rfl) (ak (cm (cm (bf aJ vW) (ae rfl) (gw fL (xL af))) (bf (ak (ae s0) (ak aF aJ)) fY) (v4 _)) aJ)))) (show 4≤1000 by decide)) aJ) (l4 fy (by rw[List.length_map,kD];exact Nat.le_trans (Nat.le_of_lt hi) (Nat.le_trans hm (by decide))))) (ez ⟨ps++[⟨x,dT,dC,v⟩],s0,s2,oV.set aD _,(a6.trans K_).nG (Nat.le_refl _),?_,fun p aH=> ?_,?_⟩)
   ·rw[List.length_append,kD];rfl
   ·rcases List.mem_append.mp aH with aH|aH
    ·exact ok p aH
    ·obtain rfl:=List.mem_singleton.mp aH;exact⟨af,ha,fa,q5,oc,aR⟩
   ·rw[fQ fy,List.map_append];rfl
  ·exact fun σ H1 _=>congrArg some (if_neg (Int.lt_irrefl _))
 exact k H' ps e I.len I.ok I.g I.D I.x
end
noncomputable abbrev c5:=Nat×Nat
noncomputable def fD(r:c5):V:= .tup [.int r.1, .int r.2]
noncomputable def expand(rs:List c5):List Nat:=rs.flatMap fun r=>List.replicate r.1 r.2
theorem rd(a b:List c5):expand (a++b)=expand a++expand b:=List.flatMap_append
theorem pB(m n:Nat):expand [(m,n)]=List.replicate m n:=by simp[expand]
noncomputable def fU(rs:List c5)(m n:Nat):List c5:=match rs.getLast? with
 |some r=>if r.2=n then rs.dropLast++[(r.1+m,n)]else rs++[(m,n)]
 |none=>[(m,n)]
theorem yE(m n:Nat):fU [] m n=[(m,n)]:=rfl
theorem yG(rs:List c5)(k m n:Nat):fU (rs++[(k,n)]) m n=rs++[(k+m,n)]:=by
 unfold fU;simp
theorem yF(rs:List c5)(r:c5)(m n:Nat)(h:r.2≠n):fU (rs++[r]) m n=rs++[r]++[(m,n)]:=by
 unfold fU;simp[h]
theorem tr(rs:List c5)(m n:Nat):expand (fU rs m n)=expand rs++List.replicate m n:=by
 rcases List.eq_nil_or_concat rs with rfl|⟨q,r,e⟩
 ·simp[yE,expand]
 ·rw[List.concat_eq_append] at e
  subst e
  obtain⟨k,w⟩:=r
  by_cases h:w=n
  ·subst h
   rw[yG,rd,rd,pB,pB,←List.replicate_append_replicate,List.append_assoc]
  ·rw[yF _ _ _ _ h,rd,pB]
theorem vx(rs:List c5)(m n:Nat):(fU rs m n).length≤rs.length+1:=by
 rcases List.eq_nil_or_concat rs with rfl|⟨q,r,e⟩
 ·simp[yE]
 ·rw[List.concat_eq_append] at e
  subst e
  obtain⟨k,w⟩:=r
  by_cases h:w=n
  ·subst h;rw[yG];simp
  ·rw[yF _ _ _ _ h];simp
theorem zp{α β:Type}{s:Nat}(aY:0<s)(f:α→List β):∀{L:List α},(∀a∈L,(f a).length=s)→∀{c:Nat} {a:α},L[c / s]?=some a→(L.flatMap f)[c]?=(f a)[c%s]?
 |[],_,c,a,h=>by simp at h
 |z::L,au,c,a,h=>by
  have hz:=au z (by simp)
  rw[List.flatMap_cons]
  by_cases aU:c<s
  ·have ag:c / s=0:=Nat.div_eq_of_lt aU
   rw[ag] at h
   simp at h;subst h
   rw[List.getElem?_append_left (by omega),Nat.mod_eq_of_lt aU]
  ·have ag:c / s=(c - s) / s+1:=Nat.div_eq_sub_div aY (by omega)
   have bW:c%s=(c - s)%s:=Nat.mod_eq_sub_mod (by omega)
   rw[ag,List.getElem?_cons_succ] at h
   have aK:=zp aY f (fun b az=>au b (List.mem_cons_of_mem _ az)) h
   rw[List.getElem?_append_right (by omega),hz,aK,bW]
theorem Ev{α β:Type}{s:Nat}(f:α→List β):∀{L:List α},(∀a∈L,(f a).length=s)→(L.flatMap f).length=L.length*s
 |[],_=>by simp
 |z::L,au=>by
  rw[List.flatMap_cons,List.length_append,au z (by simp),Ev f fun b az=>au b (List.mem_cons_of_mem _ az),List.length_cons,Nat.add_mul];omega
noncomputable def full(r:List bh):List Val:=(dj r).flatMap fun x=>List.replicate (x.2.1 - x.1+1).toNat x.2.2
theorem EH:∀{r:List bh} {s:Int},Ch r→(∀x∈r,x.1≤top)→(r.head?.map (·.1)=some s)→(full r).length=(top - s+1).toNat∧∀c:Nat,c<(top - s+1).toNat→(full r)[c]?=cE r (s+c)
 |[],s,_,_,h=>by simp at h
 |[x],s,_,au,h=>by
  simp at h;subst h
  have:=au x (by simp)
  unfold full dj
  simp only[List.flatMap_cons,List.flatMap_nil,List.append_nil,List.length_replicate,true_and]
  intro c aU
  rw[gb,jN,List.getElem?_replicate,if_pos aU]
  simp;omega
 |x::y::r,s,aU,au,h=>by
  simp at h;subst h
  have aQ:=au y (by simp)
  have t2:=aU.b4.1.1
  obtain⟨RG,RH⟩:=EH (r:=y::r) (s:=y.1) aU.b4.2 (fun z hz=>au z (List.mem_cons_of_mem _ hz)) rfl
  have e:full (x::y::r)=List.replicate (y.1 - x.1).toNat x.2++full (y::r):=by
   unfold full;simp only[dj,List.flatMap_cons]
   rw[show(y.1 - 1 - x.1+1)=y.1 - x.1 by omega]
  rw[e]
  refine⟨by rw[List.length_append,List.length_replicate,RG];omega,fun c tK=> ?_⟩
  rw[gb]
  by_cases tL:x.1+c<y.1
  ·rw[List.getElem?_append_left (by simp;omega),List.getElem?_replicate,if_pos (by omega),m8 (r:=y::r) fun z hz=> ?_]
   ·have:x.1≤x.1+c:=by omega
    simp[this]
   ·rcases List.mem_cons.mp hz with rfl|hz
    ·exact tL
    ·have pw:=lg aU.b4.2
     rw[List.map_cons,List.pairwise_cons] at pw
     have:=pw.1 _ (List.mem_map.mpr ⟨z,hz,rfl⟩);omega
  ·rw[List.getElem?_append_right (by simp;omega),List.length_replicate]
   have ah:=RH (c -(y.1 - x.1).toNat) (by omega)
   rw[ah,show y.1+((c -(y.1 - x.1).toNat:Nat):Int)=x.1+c by omega]
   obtain⟨w,hw⟩:∃w,cE (y::r) (x.1+c)=some w:=by
    rw[gb]
    cases cE r (x.1+c)with
    |some w=>exact⟨w,rfl⟩
    |none=>exact⟨y.2,by simp[show y.1≤x.1+c by omega]⟩
   rw[hw];rfl
theorem EG{r:List bh}(h:Canon r):(full r).length=1114112∧∀c:Nat,c<1114112→(full r)[c]?=cE r c:=by
 obtain⟨v,t,rfl⟩:=h.hd
 obtain⟨ag,ah⟩:=EH (s:=0) h.ch h.le rfl
 have e:(top - 0+1).toNat=1114112:=by decide
 rw[e] at ag ah
 exact⟨ag,fun c aU=>by rw[ah c aU];simp⟩
noncomputable def xw(r:c5):PyData:= .tuple [.int r.1, .int r.2]
theorem ed.run{H:ao}(r:c5):ed H 1 (fD r) (xw r)
 |0,h=>absurd h (Nat.not_succ_le_zero _)
 |m+1,_=>bm (f:=PyData.tuple) (oE (ed.int m (Nat.zero_le _)) (oE (ed.int m (Nat.zero_le _)) rfl))
theorem N3{H:ao}{i j:Nat}{l:List c5}(au:H[i]?=some (.list (l.map fD)))(bM:H[j]?=some (.list [])):vEq H (.loc i) (.loc j)=some (decide (l=[])):=by
 have aU:∀l:List c5,PyData.canLayAll0 (l.map xw)=true∧PyData.depthAll (l.map xw)≤1:=by
  intro l
  induction l with
  |nil=>exact⟨rfl,Nat.zero_le _⟩
  |cons z l aK=>exact⟨aK.1,Nat.max_le.mpr ⟨Nat.le_refl _,aK.2⟩⟩
 refine(py ((ed.list (k:=1) (g:=xw) au fun x _=>ed.run x) 8 (by decide)) (qu bM) (Bool.and_eq_true_iff.mpr ⟨(aU l).1,decide_eq_true (Nat.le_trans (Nat.succ_le_succ (aU l).2) (by decide))⟩) rfl).trans ?_
 cases l<;>rfl
section
variable{H:ao}
theorem vX{G:Prop}{l m n:Nat}{rs:List c5}(au:H[l]?=some (.list (rs.map fD)))(hz:rs.length≤100000)(k:∀H',lQ [.loc l, .int m, .int n] H=some (.none,H')→H'[l]?=some (.list ((fU rs m n).map fD))→dZ l H H'→H.length≤H'.length→G):G:=by
 have a6:=Ext.app (H:=H) [aM.list []]
 have gl:=a6 _ _ au
 have xS:bq .NotEq (aa 0) (dList []) (f_ [.loc l, .int m, .int n]) H=some (!decide (rs=[]),H++[.list []]):=bV (ae rfl) (d4 aJ (Nat.zero_le _)) (congrArg (Option.map _) (N3 gl bP))
 have cr:=a6.len
 generalize H++[aM.list []]=H1 at*
 have gp:rs.length≤1000000:=Nat.le_trans hz (by decide)
 have app:fU rs m n=rs++[(m,n)]→∀{T:cK} {A:b9},T (f_ [.loc l, .int m, .int n]) H=some (false,H1)→Run (aq (b8 T A (aq (c8 (b5 (g4 hG) (aa 0) [(cQ [(aa 1),(aa 2)])])) aI)) aI (f_ [.loc l, .int m, .int n]) H) (Fin fun p=>p=(.none,H1.set l (.list ((fU rs m n).map fD)))):=fun e {T A} bg=>
  r_ bg (ge (dM (ae rfl) (kR gl) (ak (et (ak (ae rfl) (ak (ae rfl) aJ)) (show 2≤1000 by decide)) aJ) (l4 gl (by rw[List.length_map];exact gp))) (gZ ⟨_,rfl,by rw[e,List.map_append];rfl⟩))
 refine k (H1.set l (.list ((fU rs m n).map fD))) (Run.is (cu ?_ rfl)) (fQ gl) (a6.oR.trans .set) (oL cr)
 rcases List.eq_nil_or_concat rs with rfl|⟨q,r,e⟩
 ·exact app (yE m n) (fE xS)
 ·rw[List.concat_eq_append] at e
  subst e
  obtain⟨j,w⟩:=r
  rw[decide_eq_false (by rw[List.append_eq_nil_iff];exact fun q=>nomatch q.2)] at xS
  have tC:=gl
  rw[List.map_append] at tC
  by_cases hw:w=n
  ·subst hw
   refine fs (g5 xS (g5 (bV (cm (cm (ae rfl) (oi aF) (uP tC)) aF rfl) (ae rfl) (congrArg some (beq_self_eq_true (w:Int)))) sh)) (jW (et (ak (cT (cm (cm (ae rfl) (oi aF) (uP tC)) aF rfl) (ae rfl) rfl) (ak (ae rfl) aJ)) (show 2≤1000 by decide)) (ae rfl) (oi aF) (Ki tC) (gZ ⟨_,rfl,?_⟩))
   rw[yG,List.map_append];rfl
  ·exact app (yF _ _ _ _ hw) (g5 xS (fE (bV (cm (cm (ae rfl) (oi aF) (uP tC)) aF rfl) (ae rfl) (congrArg some (beq_eq_false_iff_ne.mpr fun e=>hw (Int.ofNat.inj e))))))
noncomputable def Mo(H:ao)(l:Nat)(vs:List Val)(v:Val)(p:V×ao):Prop:=∃(i:Nat) (i_:List Val),p.1= .int i∧i_[i]?=some v∧(i_=vs∨i_=vs++[v])∧p.2[l]?=some (.list (i_.map Val.v))∧dZ l H p.2∧H.length≤p.2.length
theorem Od{G:Prop}{l:Nat}{vs:List Val}{v:Val}(au:H[l]?=some (.list (vs.map Val.v)))(hz:vs.length≤100000)(k:∀(i:Nat) (i_:List Val) H',va [.loc l,v.v] H=some (.int i,H')→i_[i]?=some v→(i_=vs∨i_=vs++[v])→
 H'[l]?=some (.list (i_.map Val.v))→dZ l H H'→H.length≤H'.length→G):G:=by
 have gp:vs.length≤1000000:=Nat.le_trans hz (by decide)
 obtain⟨⟨_,H'⟩,e,i,i_,rfl,a,b,c,d,f⟩:Run (va [.loc l,v.v] H) (Mo H l vs v):=by
  refine cu (fB (Aj (ae rfl) au) vs.length gp (fun i σ H'=>σ 0=some (.loc l)∧σ 1=some v.v∧H'=H) ⟨rfl,rfl,rfl⟩ ?_ ?_ ?_) rfl
  ·rintro i σ H' hi ⟨s0,s1,e⟩
   subst e
   have bR:vs[i]?=some vs[i]:=List.getElem?_eq_getElem hi
   have lk:∀{cJ:aN},cJ 3=some vs[i].v→cJ 1=some v.v→fx (aO j' [(aa 3),(aa 1)]) cJ H'=some (decide (vs[i]=v),H'):=fun a b=>iL (bf (ak (ae a) (ak (ae b) aJ)) (vV _ _))
   refine .mk (v:= .tup [.int i,vs[i].v]) (Bj au (by rw[List.getElem?_map,bR];rfl)) rfl ?_
   by_cases z_:vs[i]=v
   ·exact fs ((lk (cJ:=mF σ [2,3] [.int i,vs[i].v]) rfl s1).trans (congrArg (fun b=>some (b,H')) (decide_eq_true z_))) (cN (ae rfl) ⟨i,vs,rfl,bR.trans (congrArg some z_), .inl rfl,au,fun _ _ _ h=>h,Nat.le_refl _⟩)
   ·exact c6 ((lk (cJ:=mF σ [2,3] [.int i,vs[i].v]) rfl s1).trans (congrArg (fun b=>some (b,H')) (decide_eq_false z_))) (ez ⟨s0,s1,rfl⟩)
  ·rintro σ H' ⟨_,_,e⟩
   subst e
   exact Bk au (Nat.le_of_eq (List.length_map _))
  ·rintro σ H' ⟨s0,s1,e⟩
   subst e
   have a3:=pE (fQ (m:= .list (vs.map Val.v++[v.v])) au) (by rw[List.length_append,List.length_map];exact Nat.lt_of_le_of_lt (Nat.succ_le_succ hz) (by decide))
   rw[List.length_append,List.length_map] at a3
   exact ge (dM (ae s0) (kR au) (ak (ae s1) aJ) (l4 au (by rw[List.length_map];exact gp))) (cN (cT (bf (ak (ae s0) aJ) a3) aF (sZ (c:=vs.length) (show((vs.length:Int)+1) - 1=_ from Int.add_sub_cancel _ 1))) ⟨vs.length,vs++[v],rfl,List.getElem?_concat_length, .inr rfl,by rw[fQ au,List.map_append];rfl, .set,oL (Nat.le_refl _)⟩)
 exact k i i_ H' e a b c d f
end
theorem JF:∀{r:List bh},Ch r→(∀x∈r,x.1≤top)→∀x∈dj r,x.1≤x.2.1
 |[],_,_,_,h=>by cases h
 |[y],_,au,x,h=>by simp[dj] at h;subst h;exact au y (by simp)
 |y::z::r,aU,au,x,h=>by
  simp only[dj,List.mem_cons] at h
  rcases h with rfl|h
  ·have:=aU.b4.1.1;show y.1≤z.1 - 1;omega
  ·exact JF aU.b4.2 (fun q bC=>au q (List.mem_cons_of_mem _ bC)) x h
noncomputable def part(x:eG):List Val:=List.replicate (x.2.1 - x.1+1).toNat x.2.2
theorem O_(r:List bh):full r=(dj r).flatMap part:=rfl
section
variable{H:ao}{l a b:Nat}{d:Val}{r:List bh}
structure Db(H:ao)(r:List bh)(n i:Nat)(H':ao)(vs:List Val)(rs:List c5):Prop where
 g1:H'[n]?=some (.list (vs.map Val.v))
 g2:H'[n+1]?=some (.list (rs.map fD))
 m:(expand rs).map (fun n=>vs[n]?)=(((dj r).take i).flatMap part).map some
 v:vs.length≤i
 r:rs.length≤i
 x:Ext H H'
theorem Oe{G:Prop}(h:d3 H l a b d r)(c:Canon r)(aD:r.length≤1000)(k:∀(H':ao) (vs:List Val) (rs:List c5),vb [.ins 139 l] H=some (.tup [.loc H.length, .loc (H.length+1)],H')→H'[H.length]?=some (.list (vs.map Val.v))→
 H'[H.length+1]?=some (.list (rs.map fD))→(expand rs).map (fun n=>vs[n]?)=(full r).map some→rs.length≤r.length→vs.length≤r.length→Ext H H'→G):G:=by
 have a6:=Ext.app (H:=H) [aM.list []]
 have cr:(H++[aM.list []]).length=H.length+1:=List.length_append
 have g1:=bP (H:=H) (m:= .list [])
 generalize Fk:H++[aM.list []]=H1 at*
 have bj:=a6.trans (.app [aM.list []])
 have om:=Ej (h.ext bj) aD
 have g2:=bP (H:=H1) (m:= .list [])
 have ov:=Ext.app [aM.list []] _ _ g1
 have dH:(H1++[aM.list []]).length=H.length+2:=by rw[List.length_append,cr];rfl
 rw[cr] at g2
 have bo:∀σ:aN,dList [] σ H=some (.loc H.length,H1):=fun σ=>(d4 aJ (Nat.zero_le _)).trans (by rw[Fk])
 have bB:∀σ:aN,dList [] σ H1=some (.loc (H.length+1),H1++[aM.list []]):=fun σ=>cr▸d4 aJ (Nat.zero_le _)
 clear Fk
 generalize H1++[aM.list []]=aG at*
 have cc:=Ext.app (H:=aG) [aM.list ((dj r).map cv)]
 have g3:=bP (H:=aG) (m:= .list ((dj r).map cv))
 generalize aG++[aM.list ((dj r).map cv)]=H3 at*
 have hz:∀{i},i≤(dj r).length→i≤1000:=fun q=>Nat.le_trans q (by rw[nE];exact aD)
 obtain⟨⟨_,H'⟩,e,rfl,vs,rs,V⟩:Run (vb [.ins 139 l] H) fun p=>p.1= .tup [.loc H.length, .loc (H.length+1)]∧∃vs rs,Db H r H.length (dj r).length p.2 vs rs:=by
  refine cu (cq (bo _) (cq (bB _) (fB (el (bf (ak (ae rfl) aJ) om) (fo g3)) (dj r).length (Nat.le_trans (hz (Nat.le_refl _)) (by decide)) (fun i σ H'=>σ 1=some (.loc H.length)∧σ 2=some (.loc (H.length+1))∧H'[aG.length]?=some (.list ((dj r).map cv))∧∃vs rs,Db H r H.length i H' vs rs)
   ⟨rfl,rfl,g3,[],[],cc _ _ ov,cc _ _ g2,rfl,Nat.zero_le _,Nat.zero_le _,bj.trans cc⟩ ?_ (fun σ H' I=>dJ I.2.2.1 (List.getElem?_eq_none (Nat.le_of_eq (List.length_map _)))) fun σ H' I=>cN (et (ak (ae I.1) (ak (ae I.2.1) aJ)) (show 2≤1000 by decide)) ⟨rfl,I.2.2.2⟩))) rfl
  rintro i σ cW hi ⟨s1,s2,g3,vs,rs,V⟩
  have kF:(dj r)[i]?=some (dj r)[i]:=List.getElem?_eq_getElem hi
  have hle:=JF c.ch c.le _ (List.getElem_mem hi)
  generalize (dj r)[i]=x at*
  refine Od (v:=x.2.2) V.g1 (Nat.le_trans V.v (Nat.le_trans (hz (Nat.le_of_lt hi)) (by decide))) fun k i_ fj oH aB wI iT gg _=> ?_
  have Qo:(((x.2.1 - x.1+1).toNat:Nat):Int)=x.2.1 - x.1+1:=Int.toNat_of_nonneg (Int.le_add_one (Int.sub_nonneg_of_le hle))
  refine vX (m:=(x.2.1 - x.1+1).toNat) (n:=k) (gg _ _ (Nat.succ_ne_self _) V.g2) (Nat.le_trans V.r (Nat.le_trans (hz (Nat.le_of_lt hi)) (by decide))) fun d0 oI we eV _=> ?_
  rw[Qo] at oI
  have fr:∀{j o},j≠H.length→j≠H.length+1→cW[j]?=some o→d0[j]?=some o:=fun a b h=>eV _ _ b (gg _ _ a h)
  refine .mk (v:=cv x) (dJ g3 (by rw[List.getElem?_map,kF];rfl)) rfl (ge (bf (ak (ae s2) (ak (cT (cT (ae rfl) (ae rfl) rfl) aF rfl) (ak (bf (ak (ae s1) (ak (ae rfl) aJ)) oH) aJ))) oI) (ez ⟨s1,s2,fr (dH▸Nat.ne_of_gt (Nat.lt_add_of_pos_right (by decide))) (dH▸Nat.ne_of_gt (Nat.lt_succ_self _)) g3,i_,fU rs (x.2.1 - x.1+1).toNat k,eV _ _ (Nat.ne_of_lt (Nat.lt_succ_self _)) iT,we,?_,?_,Nat.le_trans (vx _ _ _) (Nat.succ_le_succ V.r),fun j m h=>fr (Nat.ne_of_lt (fO h)) (Nat.ne_of_lt (Nat.lt_succ_of_lt (fO h))) (V.x j m h)⟩))
  ·have bY:(expand rs).map (fun n=>i_[n]?)=(expand rs).map (fun n=>vs[n]?):=by
    refine List.map_congr_left fun n aD=> ?_
    have tX:vs[n]?∈(expand rs).map (fun n=>vs[n]?):=List.mem_map.mpr ⟨n,aD,rfl⟩
    rw[V.m] at tX
    obtain⟨w,_,hw⟩:=List.mem_map.mp tX
    rcases wI with rfl|rfl
    ·rfl
    ·rw[List.getElem?_append_left (List.getElem?_eq_some_iff.mp hw.symm).1]
   rw[tr,List.map_append,hR kF,List.flatMap_append,List.map_append,List.map_replicate,aB,bY,V.m,List.flatMap_cons,List.flatMap_nil,List.append_nil]
   unfold part;rw[List.map_replicate]
  ·rcases wI with rfl|rfl
   ·exact Nat.le_succ_of_le V.v
   ·rw[List.length_append];exact Nat.succ_le_succ V.v
 have hm:=V.m
 rw[List.take_length,←O_] at hm
 have aR:=V.v
 have aZ:=V.r
 rw[nE] at aR aZ
 exact k H' vs rs e V.g1 V.g2 hm aZ aR V.x
end
noncomputable def rT(n:Nat):V:= .int n
theorem Oy(rs:List c5)(i:Nat):(expand (rs.take i)).length≤(expand rs).length:=by
 conv=>rhs;rw[←List.take_append_drop i rs]
 rw[rd,List.length_append];exact Nat.le_add_right _ _
section
variable{H:ao}
structure CQ(H:ao)(bE:Nat)(q:List Nat)(H':ao):Prop where
 o:H'[H.length]?=some (.aS [("runs", .loc bE),("numbers", .loc (H.length+1))])
 n:H'[H.length+1]?=some (.list (q.map rT))
 x:Ext H H'
theorem Ee{G:Prop}{bE:Nat}{rs:List c5}(aZ:H[bE]?=some (.list (rs.map fD)))(hz:(expand rs).length≤1000000)(oC:rs.length≤1000000)(k:∀H',newD 188 sz [.loc bE] H=some (.ins 188 H.length,H')→
 H'[H.length]?=some (.aS [("runs", .loc bE),("numbers", .loc (H.length+1))])→H'[H.length+1]?=some (.list ((expand rs).map rT))→Ext H H'→G):G:=by
 obtain⟨H',e,I⟩:∃H',sz [.ins 188 H.length, .loc bE] (H++[.aS []])=some (.none,H')∧CQ H bE (expand rs) H':=by
  refine Run.ex (cu ?_ rfl)
  rw[←List.append_nil (H++[aM.aS []])]
  refine jx (ae rfl) rfl (Nat.zero_le _) (nB (d4 aJ (Nat.zero_le _)) rfl (show 1≤900 by decide) ?_)
  have x0:=(Ext.app (H:=H) [aM.aS (b0 "numbers" (.loc (H++[aM.aS (b0 "runs" (.loc bE) [])]++[]).length) (b0 "runs" (.loc bE) []))]).trans (.app ([]++[aM.list []]))
  refine fB (el (ae rfl) (fo (x0 _ _ aZ))) rs.length oC (fun i σ H'=>σ 0=some (.ins 188 H.length)∧CQ H bE (expand (rs.take i)) H') ⟨rfl,?_,?_,x0⟩ ?_ (fun σ H' I=>dJ (I.2.x _ _ aZ) (List.getElem?_eq_none (Nat.le_of_eq (List.length_map _)))) fun σ H' I=>⟨_,rfl,rfl,by have:=I.2;rwa[List.take_length] at this⟩
  ·refine(Ext.app _ _ _ bP).trans ?_
   rw[List.append_nil,List.length_append];kernel_rfl
  ·rw[List.append_assoc,List.getElem?_append_right (Nat.le_add_right ..),Nat.add_sub_cancel_left];rfl
  ·rintro i σ H1 hi ⟨s0,I⟩
   have lB:rs[i]?=some rs[i]:=List.getElem?_eq_getElem hi
   have bY:expand (rs.take (i+1))=expand (rs.take i)++List.replicate rs[i].1 rs[i].2:=by rw[hR lB,rd,←pB]
   have iW:=Nat.le_trans (Oy rs (i+1)) hz
   rw[bY,List.length_append,List.length_replicate] at iW
   have a6:=Ext.app (H:=H1) [aM.list [.int rs[i].2]]
   have bj:=a6.trans (.app [aM.list (List.replicate (rs[i].1:Int).toNat (.int rs[i].2))])
   refine .mk (v:=fD rs[i]) (dJ (I.x _ _ aZ) (by rw[List.getElem?_map,lB];rfl)) rfl (ge (dM (bZ (ae s0) (eM I.o (by kernel_rfl) rfl)) (kR I.n) (ak (cT (d4 (ak (ae rfl) aJ) (show 1≤1000 by decide)) (ae rfl) (MF bP (Int.natCast_nonneg _) (Int.ofNat_le.mpr (Nat.le_trans (Nat.le_add_left ..) iW)))) aJ) (OC (bj _ _ I.n) bP (by rw[List.length_map,List.length_replicate];exact iW))) (ez ⟨s0,?_,?_,(I.x.trans bj).nG (Nat.le_succ _)⟩))
   ·exact(List.getElem?_set_ne (Nat.succ_ne_self _)).trans (bj _ _ I.o)
   ·rw[fQ (bj _ _ I.n),bY,List.map_append,List.map_replicate];rfl
 exact k H' (eNew e) I.o I.n I.x
end
noncomputable def js(r:c5):List Int:=[(r.1:Int),(r.2:Int)]
theorem Gr:∀rs:List c5,rE (rs.map fD)=some (rs.map js)
 |[]=>rfl
 |r::rs=>bi rfl (bm (f:=(js r:: ·)) (Gr rs))
theorem Go:∀{a b:List c5},a.map js=b.map js→a=b
 |[],[],_=>rfl
 |[],_::_,h=>by cases h
 |_::_,[],h=>by cases h
 |(m,n)::a,(k,w)::b,h=>by
  simp only[List.map_cons,js,List.cons.injEq,and_true] at h
  obtain⟨⟨ag,ah⟩,aE⟩:=h
  rw[Go aE,Int.ofNat.inj ag,Int.ofNat.inj ah]
theorem zA{K:Type} [DecidableEq K](x y:K)(v:V):∀ps:List (K×V),gk x (b0 y v ps)=if y=x then some v else gk x ps
 |[]=>by simp[b0,gk]
 |(z,u)::ps=>by
  have aK:=zA x y v ps
  simp only[b0]
  by_cases hz:z=y
  ·subst hz
   rw[if_pos rfl]
   simp only[gk]
   by_cases af:z=x<;>simp[af]
  ·rw[if_neg hz]
   simp only[gk]
   by_cases af:z=x
   ·subst af;rw[if_pos rfl,if_neg (Ne.symm hz),if_pos rfl]
   ·rw[if_neg af,aK,if_neg af]
theorem EN{K:Type} [DecidableEq K](y:K)(v:V):∀ps:List (K×V),(b0 y v ps).length≤ps.length+1
 |[]=>by simp[b0]
 |(z,u)::ps=>by
  have aK:=EN y v ps
  simp only[b0];split<;>simp only[List.length_cons]<;>omega
noncomputable def fu(s bE lk lf a4 f:Nat):aM:= .aS [("size", .int s),("rows", .loc bE),("known", .loc lk),("found", .loc lf),("begun", .loc a4),("filled", .int f)]
noncomputable def xp(x:V)(nb:Nat):aM:= .aS [("runs",x),("numbers", .loc nb)]
theorem Jz{x:V}{nb s bE lk lf a4 f:Nat}:xp x nb≠fu s bE lk lf a4 f:=fun e=>(show("runs":Str)≠"size"by decide+kernel) (congrArg Prod.fst (List.cons.inj (aM.aS.inj e)).1)
theorem p_{α:Type}{l:List α}{i:Nat}{x:α}(h:l[i]?=some x):i<l.length:=(List.getElem?_eq_some_iff.mp h).1
structure CR(lo:Nat)(H:ao)(bE lf a4 t:Nat)(nums:List Nat)(x:V)(nb:Nat):Prop where
 o:H[t]?=some (xp x nb)
 g:H[nb]?=some (.list (nums.map rT))
 cZ:nb≠bE
 c':nb≠lf
 eS:nb≠a4
 dn:lo≤t
 dU:lo≤nb
structure es(lo:Nat)(H:ao)(l bE lk lf a4 s:Nat)(bu:List (List Nat))(fr bw:List c5)(f N:Nat)(be:List Nat)(ps:List (List (List Int)×V)):Prop where
 o:H[l]?=some (fu s bE lk lf a4 f)
 hJ:H[lf]?=some (.list (fr.map fD))
 fK:H[a4]?=some (.list (bw.map fD))
 gC:H[bE]?=some (.list (be.map (V.ins 188)))
 dA:H[lk]?=some (.gI ps)
 hS:be.length=bu.length
 row:∀(i t:Nat) (nums:List Nat),be[i]?=some t→bu[i]?=some nums→∃x nb,CR lo H bE lf a4 t nums x nb
 AA:∀(rs:List c5) (v:V),gk (rs.map js) ps=some v→∃i:Nat,v= .int i∧bu[i]?=some (expand rs)
 jJ:lo≤l
 e':lo≤bE
 lY:lo≤lk
 vH:lo≤lf
 hE:lo≤a4
 cZ:bE≠lf
 c':bE≠a4
 eS:lf≠a4
 Cv:ps.length≤N
 oU:bu.length≤N
 jc:fr.length≤N
 jb:bw.length≤N
noncomputable def f8(lo:Nat)(H:ao)(l bE lk lf a4 s:Nat)(bu:List (List Nat))(fr bw:List c5)(f N:Nat):Prop:=∃be ps,es lo H l bE lk lf a4 s bu fr bw f N be ps
section
variable{lo:Nat}{H H':ao}{l bE lk lf a4 s:Nat}{bu:List (List Nat)}{fr bw:List c5}{f N:Nat}{be:List Nat}{ps:List (List (List Int)×V)}
theorem es.to{en ts N':Nat}{e6 iw:List c5}(X:es lo H l bE lk lf a4 s bu fr bw f N be ps)(o:H'[l]?=some (fu s bE lk lf en ts))(hJ:H'[lf]?=some (.list (e6.map fD)))(fK:H'[en]?=some (.list (iw.map fD)))
 (gC:H'[bE]?=some (.list (be.map (V.ins 188)))) (dA:H'[lk]?=some (.gI ps)) (row:∀{t nums x nb},CR lo H bE lf a4 t nums x nb→H'[t]?=some (xp x nb)∧H'[nb]?=some (.list (nums.map rT))∧nb≠en)
 (hE:lo≤en) (c':bE≠en) (eS:lf≠en) (cb:N≤N') (jc:e6.length≤N') (jb:iw.length≤N'):es lo H' l bE lk lf en s bu e6 iw ts N' be ps:=
 ⟨o,hJ,fK,gC,dA,X.hS,fun i t nums a b=>match X.row i t nums a b with|⟨x,nb,R⟩=>⟨x,nb,(row R).1,(row R).2.1,R.cZ,R.c',(row R).2.2,R.dn,R.dU⟩,X.AA,X.jJ,X.e',X.lY,X.vH,hE,X.cZ,c',eS,Nat.le_trans X.Cv cb,Nat.le_trans X.oU cb,jc,jb⟩
theorem es.ext{N':Nat}(X:es lo H l bE lk lf a4 s bu fr bw f N be ps)(x:Ext H H')(h:N≤N'):es lo H' l bE lk lf a4 s bu fr bw f N' be ps:=
 X.to (x _ _ X.o) (x _ _ X.hJ) (x _ _ X.fK) (x _ _ X.gC) (x _ _ X.dA) (fun R=>⟨x _ _ R.o,x _ _ R.g,R.eS⟩) X.hE X.c' X.eS h (Nat.le_trans X.jc h) (Nat.le_trans X.jb h)
theorem f8.more{N':Nat}(S:f8 lo H l bE lk lf a4 s bu fr bw f N)(h:N≤N'):f8 lo H l bE lk lf a4 s bu fr bw f N':=match S with|⟨be,ps,X⟩=>⟨be,ps,X.ext .refl h⟩
theorem f8.ext(S:f8 lo H l bE lk lf a4 s bu fr bw f N)(x:Ext H H'):f8 lo H' l bE lk lf a4 s bu fr bw f N:=match S with|⟨be,ps,X⟩=>⟨be,ps,X.ext x (Nat.le_refl _)⟩
theorem es.n9(X:es lo H l bE lk lf a4 s bu fr bw f N be ps):gf 237 "size" (.ins 237 l) H=some (.int s):=eM X.o (by kernel_rfl) rfl
theorem es.yD(X:es lo H l bE lk lf a4 s bu fr bw f N be ps):gf 237 "rows" (.ins 237 l) H=some (.loc bE):=eM X.o (by kernel_rfl) rfl
theorem es.vr(X:es lo H l bE lk lf a4 s bu fr bw f N be ps):gf 237 "known" (.ins 237 l) H=some (.loc lk):=eM X.o (by kernel_rfl) rfl
theorem es.yC(X:es lo H l bE lk lf a4 s bu fr bw f N be ps):gf 237 "found" (.ins 237 l) H=some (.loc lf):=eM X.o (by kernel_rfl) rfl
theorem es.Dg(X:es lo H l bE lk lf a4 s bu fr bw f N be ps):gf 237 "begun" (.ins 237 l) H=some (.loc a4):=eM X.o (by kernel_rfl) rfl
theorem es.n8(X:es lo H l bE lk lf a4 s bu fr bw f N be ps):gf 237 "filled" (.ins 237 l) H=some (.int f):=eM X.o (by kernel_rfl) rfl
theorem es.sel{F:bz}{n:Str}(X:es lo H l bE lk lf a4 s bu fr bw f N be ps)(h:cH n [("size", .int s),("rows", .loc bE),("known", .loc lk),("found", .loc lf),("begun", .loc a4),("filled", .int f)]=none):cI 237 n F (.ins 237 l) H=some (F,true):=jX X.o h
theorem Ei{G:Prop}{L:Nat}{rs:List c5}(S:f8 lo H l bE lk lf a4 s bu fr bw f N)(bH:H[L]?=some (.list (rs.map fD)))(cb:N≤90000)(hz:(expand rs).length≤1000000)(oC:rs.length≤1000000)(ej:lo≤H.length)
 (k:∀(i:Nat) (cO:List (List Nat)) H',qI [.ins 237 l, .loc L] H=some (.int i,H')→f8 lo H' l bE lk lf a4 s cO fr bw f (N+1)→cO[i]?=some (expand rs)→(cO=bu∨cO=bu++[expand rs])→H.length≤H'.length→h3 lo H H'→G):G:=by
 obtain⟨be,ps,X⟩:=S
 have aB:=Gr rs
 have KG:=OG bH (by rw[List.length_map];exact oC)
 cases b6:gk (rs.map js) ps with
 |some v=>
  obtain⟨i,rfl,hi⟩:=X.AA rs v b6
  have lk:=Cg X.dA aB
  rw[b6] at lk
  exact k i bu H (Run.is (cu (cq (bf (ak (ae rfl) aJ) KG) (c6 (B6 (ae rfl) (bZ (ae rfl) X.vr) lk) (cN (y7 (bZ (ae rfl) X.vr) (ae rfl) lk) rfl))) rfl)) ⟨be,ps,X.ext .refl (Nat.le_succ _)⟩ hi (.inl rfl) (Nat.le_refl _) fun _ _ _ h=>h
 |none=>
  have GZ:=Cg X.dA aB
  rw[b6] at GZ
  have Ll:be.length≤90000:=X.hS▸Nat.le_trans X.oU cb
  have a3:=pE X.gC (by rw[List.length_map];exact Nat.lt_of_le_of_lt Ll (by decide))
  rw[List.length_map] at a3
  have Hr:∀{j:Nat} {o:aM},H[j]?=some o→(∀qs,o≠ .gI qs)→j≠lk:=fun h n=>d5 h X.dA (n _)
  have st:=W' (v:= .int be.length) X.dA (Nat.le_trans X.Cv (Nat.le_trans cb (by decide))) aB
  have a6:=dZ.set (l:=lk) (H:=H) (m:= .gI (b0 (rs.map js) (.int be.length) ps))
  have g1:=fQ (m:= .gI (b0 (rs.map js) (.int be.length) ps)) X.dA
  have cr:(H.set lk (.gI (b0 (rs.map js) (.int be.length) ps))).length=H.length:=List.length_set
  generalize H.set lk (.gI (b0 (rs.map js) (.int be.length) ps))=H1 at*
  have x2:∀{j:Nat} {xs:List V},H[j]?=some (.list xs)→H1[j]?=some (.list xs):=fun h=>a6 _ _ (Hr h fun _ e=>nomatch e) h
  have Lc:∀{j:Nat} {xs:List (Str×V)},H[j]?=some (.aS xs)→H1[j]?=some (.aS xs):=fun h=>a6 _ _ (Hr h fun _ e=>nomatch e) h
  refine Ee (x2 bH) hz oC fun aG cM c1 dE bj=> ?_
  rw[cr] at cM c1 dE
  have pG:=bj _ _ (x2 X.gC)
  have cc:=dZ.set (l:=bE) (H:=aG) (m:= .list (be.map (V.ins 188)++[.ins 188 H.length]))
  have g3:=fQ (m:= .list (be.map (V.ins 188)++[.ins 188 H.length])) pG
  have eg:aG.length≤(aG.set bE (.list (be.map (V.ins 188)++[.ins 188 H.length]))).length:=oL (Nat.le_refl _)
  have ap:=l4 (x:= .ins 188 H.length) pG (by rw[List.length_map];exact Nat.le_trans Ll (by decide))
  generalize aG.set bE (.list (be.map (V.ins 188)++[.ins 188 H.length]))=H3 at*
  have Lh:∀{j:Nat} {xs:List (Str×V)},H[j]?=some (.aS xs)→H3[j]?=some (.aS xs):=fun h=>cc _ _ (d5 h X.gC fun e=>nomatch e) (bj _ _ (Lc h))
  have Cr:∀{j:Nat} {xs:List V},j≠bE→H[j]?=some (.list xs)→H3[j]?=some (.list xs):=fun n h=>cc _ _ n (bj _ _ (x2 h))
  have un:=Lh X.o
  have Fb:=cc _ _ (d5 X.dA X.gC fun e=>nomatch e) (bj _ _ g1)
  have GY:=Cg Fb aB
  rw[zA,if_pos rfl] at GY
  have QY:=ew X.gC
  have A2:∀{j},H.length≤j→j≠bE:=fun h=>Nat.ne_of_gt (Nat.lt_of_lt_of_le QY h)
  refine k be.length (bu++[expand rs]) H3 (Run.is (cu (cq (bf (ak (ae rfl) aJ) KG) (fs (B6 (ae rfl) (bZ (ae rfl) X.vr) GZ) (jW (bf (ak (bZ (ae rfl) X.yD) aJ) a3) (bZ (ae rfl) X.vr) (ae rfl) st (ge (dM (bZ (ae rfl) (eM (Lc X.o) (by kernel_rfl) rfl)) (kR (x2 X.gC)) (ak (bf (ak (ae rfl) aJ) cM) aJ) ap) (gZ (cN (y7 (bZ (ae rfl) (eM un (by kernel_rfl) rfl)) (ae rfl) GY) rfl)))))) rfl))
   ⟨be++[H.length],b0 (rs.map js) (.int be.length) ps,un,Cr X.cZ.symm X.hJ,Cr X.c'.symm X.fK,by rw[g3,List.map_append];rfl,Fb,by rw[List.length_append,List.length_append,X.hS];rfl,fun i t nums hi aD=> ?_,fun JJ v aR=> ?_,X.jJ,X.e',X.lY,X.vH,X.hE,X.cZ,X.c',X.eS,Nat.le_trans (EN _ _ _) (Nat.succ_le_succ X.Cv),by rw[List.length_append];exact Nat.succ_le_succ X.oU,Nat.le_succ_of_le X.jc,Nat.le_succ_of_le X.jb⟩
   (by rw[X.hS];exact List.getElem?_concat_length) (.inr rfl) (Nat.le_trans (cr▸bj.len) eg) fun j m bM h=>cc _ _ (Nat.ne_of_lt (Nat.lt_of_lt_of_le bM X.e')) (bj _ _ (a6 _ _ (Nat.ne_of_lt (Nat.lt_of_lt_of_le bM X.lY)) h))
  ·by_cases hit:i<be.length
   ·rw[List.getElem?_append_left hit] at hi
    rw[List.getElem?_append_left (X.hS▸hit)] at aD
    obtain⟨x,nb,R⟩:=X.row i t nums hi aD
    exact⟨x,nb,Lh R.o,Cr R.cZ R.g,R.cZ,R.c',R.eS,R.dn,R.dU⟩
   ·have QQ:i=be.length:=Nat.le_antisymm (Nat.le_of_lt_succ (by have:=p_ hi;rwa[List.length_append] at this)) (Nat.le_of_not_lt hit)
    subst QQ
    obtain rfl:=Option.some.inj (List.getElem?_concat_length.symm.trans hi)
    rw[X.hS] at aD
    obtain rfl:=Option.some.inj (List.getElem?_concat_length.symm.trans aD)
    exact⟨.loc L,H.length+1,cc _ _ (A2 (Nat.le_refl _)) c1,cc _ _ (A2 (Nat.le_succ _)) dE,A2 (Nat.le_succ _),Nat.ne_of_gt (Nat.lt_succ_of_lt (ew X.hJ)),Nat.ne_of_gt (Nat.lt_succ_of_lt (ew X.fK)),ej,Nat.le_succ_of_le ej⟩
  ·rw[zA] at aR
   by_cases e:rs.map js=JJ.map js
   ·rw[if_pos e] at aR
    cases aR
    rw[←Go e]
    exact⟨be.length,rfl,by rw[X.hS];exact List.getElem?_concat_length⟩
   ·rw[if_neg e] at aR
    obtain⟨i,rfl,hi⟩:=X.AA JJ v aR
    exact⟨i,rfl,(List.getElem?_append_left (p_ hi)).trans hi⟩
end
section
variable{lo:Nat}{H H':ao}{l bE lk lf a4 s:Nat}{bu:List (List Nat)}{fr bw:List c5}{f N:Nat}{be:List Nat}{ps:List (List (List Int)×V)}
theorem Ef{G:Prop}(s:Nat)(k:∀H',newD 237 sB [.int s] H=some (.ins 237 H.length,H')→f8 H.length H' H.length (H.length+1) (H.length+2) (H.length+3) (H.length+4) s [] [] [] 0 0→Ext H H'→G):G:=by
 obtain⟨H',e,S,x⟩:∃H',sB [.ins 237 H.length, .int s] (H++[.aS []])=some (.none,H')∧f8 H.length H' H.length (H.length+1) (H.length+2) (H.length+3) (H.length+4) s [] [] [] 0 0∧Ext H H':=by
  refine Run.ex (cu ?_ rfl)
  rw[←List.append_nil (H++[aM.aS []])]
  refine jx (ae rfl) rfl (Nat.zero_le _) (nB (d4 aJ (Nat.zero_le _)) rfl (show 1≤900 by decide) (nB (v:= .loc _) (y:= .gI []) rfl rfl (show 2≤900 by decide) (nB (d4 aJ (Nat.zero_le _)) rfl (show 3≤900 by decide) (nB (d4 aJ (Nat.zero_le _)) rfl (show 4≤900 by decide) (jx aF rfl (show 5≤900 by decide) ⟨_,rfl,rfl,?_⟩)))))
  simp only[GW]
  have g:∀(o:aM) (X:ao) (i:Nat),(H++[o]++X)[H.length+(1+i)]?=X[i]?:=fun o X i=>by
   rw[List.append_assoc,List.getElem?_append_right (Nat.le_add_right _ _),Nat.add_sub_cancel_left,Nat.add_comm 1];rfl
  have ne:∀{a b},a<b→H.length+a≠H.length+b:=fun h=>Nat.ne_of_lt (Nat.add_lt_add_left h _)
  have le:=fun a=>Nat.le_add_right H.length a
  exact⟨⟨[],[],Ext.app _ _ _ bP,g _ _ 2,g _ _ 3,g _ _ 0,g _ _ 1,rfl,fun i t nums h=>(nomatch h),fun rs v h=>(nomatch h),Nat.le_refl _,le 1,le 2,le 3,le 4,ne (by decide),ne (by decide),ne (by decide),Nat.le_refl _,Nat.le_refl _,Nat.le_refl _,Nat.le_refl _⟩,(Ext.app _).trans (.app _)⟩
 exact k H' (eNew e) S x
theorem es.JQ{e6:List c5}(X:es lo H l bE lk lf a4 s bu fr bw f N be ps)(x:dZ lf H H')(g:H'[lf]?=some (.list (e6.map fD)))(z:e6.length≤N+1):es lo H' l bE lk lf a4 s bu e6 bw f (N+1) be ps:=
 X.to (x _ _ (d5 X.o X.hJ fun e=>nomatch e) X.o) g (x _ _ X.eS.symm X.fK) (x _ _ X.cZ X.gC) (x _ _ (d5 X.dA X.hJ fun e=>nomatch e) X.dA) (fun R=>⟨x _ _ (d5 R.o X.hJ fun e=>nomatch e) R.o,x _ _ R.c' R.g,R.eS⟩) X.hE X.c' X.eS (Nat.le_succ _) z (Nat.le_succ_of_le X.jb)
theorem es.setB{iw:List c5}(X:es lo H l bE lk lf a4 s bu fr bw f N be ps)(x:dZ a4 H H')(g:H'[a4]?=some (.list (iw.map fD)))(z:iw.length≤N+1):es lo H' l bE lk lf a4 s bu fr iw f (N+1) be ps:=
 X.to (x _ _ (d5 X.o X.fK fun e=>nomatch e) X.o) (x _ _ X.eS X.hJ) g (x _ _ X.c' X.gC) (x _ _ (d5 X.dA X.fK fun e=>nomatch e) X.dA) (fun R=>⟨x _ _ (d5 R.o X.fK fun e=>nomatch e) R.o,x _ _ R.eS R.g,R.eS⟩) X.hE X.c' X.eS (Nat.le_succ _) (Nat.le_succ_of_le X.jc) z
theorem es.VA{ts:Nat}(X:es lo H l bE lk lf a4 s bu fr bw f N be ps)(x:dZ l H H')(o:H'[l]?=some (fu s bE lk lf a4 ts)):es lo H' l bE lk lf a4 s bu fr bw ts N be ps:=
 X.to o (x _ _ (d5 X.hJ X.o fun e=>nomatch e) X.hJ) (x _ _ (d5 X.fK X.o fun e=>nomatch e) X.fK) (x _ _ (d5 X.gC X.o fun e=>nomatch e) X.gC) (x _ _ (d5 X.dA X.o fun e=>nomatch e) X.dA) (fun R=>⟨x _ _ (d5 R.o X.o Jz) R.o,x _ _ (d5 R.g X.o fun e=>nomatch e) R.g,R.eS⟩) X.hE X.c' X.eS (Nat.le_refl _) X.jc X.jb
theorem es.Tv{en:Nat}(X:es lo H l bE lk lf a4 s bu fr bw f N be ps)(x:dZ l H H')(o:H'[l]?=some (fu s bE lk lf en 0))(g:H'[en]?=some (.list []))(az:H.length≤en)(ej:lo≤H.length):es lo H' l bE lk lf en s bu fr [] 0 N be ps:=
 X.to o (x _ _ (d5 X.hJ X.o fun e=>nomatch e) X.hJ) g (x _ _ (d5 X.gC X.o fun e=>nomatch e) X.gC) (x _ _ (d5 X.dA X.o fun e=>nomatch e) X.dA) (fun R=>⟨x _ _ (d5 R.o X.o Jz) R.o,x _ _ (d5 R.g X.o fun e=>nomatch e) R.g,Nat.ne_of_lt (Nat.lt_of_lt_of_le (ew R.g) az)⟩) (Nat.le_trans ej az) (Nat.ne_of_lt (Nat.lt_of_lt_of_le (ew X.gC) az)) (Nat.ne_of_lt (Nat.lt_of_lt_of_le (ew X.hJ) az)) (Nat.le_refl _) X.jc (Nat.zero_le _)
theorem U1{E:a0}{R:b9}{K:Out→Prop}{σ:aN}{H1:ao}{n:Nat}(aR:E σ H=some (.loc n,H1))(h0:σ 0=some (.ins 237 l))(o:H1[l]?=some (fu s bE lk lf a4 f))(k:Run (R σ (H1.set l (fu s bE lk lf n f))) K):Run (aq (dF 237 "begun" (aa 0) E) R σ H) K:=
 nA aR (ae h0) o (show 6≤900 by decide) ((show aM.aS (b0 "begun" (.loc n) [("size", .int s),("rows", .loc bE),("known", .loc lk),("found", .loc lf),("begun", .loc a4),("filled", .int f)])=fu s bE lk lf n f by kernel_rfl)▸k)
theorem Jr{E:a0}{R:b9}{K:Out→Prop}{σ:aN}{H1:ao}{n:Nat}(aR:E σ H=some (.int n,H1))(h0:σ 0=some (.ins 237 l))(o:H1[l]?=some (fu s bE lk lf a4 f))(k:Run (R σ (H1.set l (fu s bE lk lf a4 n))) K):Run (aq (dF 237 "filled" (aa 0) E) R σ H) K:=
 nA aR (ae h0) o (show 6≤900 by decide) ((show aM.aS (b0 "filled" (.int n) [("size", .int s),("rows", .loc bE),("known", .loc lk),("found", .loc lf),("begun", .loc a4),("filled", .int f)])=fu s bE lk lf a4 n by kernel_rfl)▸k)
theorem NJ{G:Prop}(S:f8 lo H l bE lk lf a4 s bu fr bw f N)(cb:N≤80000)(hz:(expand bw).length≤1000000)(ej:lo≤H.length)(k:∀(en i:Nat) (cO:List (List Nat)) H',sA [.ins 237 l] H=some (.none,H')→f8 lo H' l bE lk lf en s cO (fU fr 1 i) [] 0 (N+2)→cO[i]?=some (expand bw)→
 (cO=bu∨cO=bu++[expand bw])→H.length≤H'.length→h3 lo H H'→G):G:=by
 obtain⟨be,ps,X⟩:=S
 refine Ei ⟨be,ps,X⟩ X.fK (Nat.le_trans cb (by decide)) hz (Nat.le_trans X.jb (Nat.le_trans cb (by decide))) ej fun i cO H1 bY ⟨WO,Uv,k9⟩ hi jr cr a6=> ?_
 refine vX (m:=1) (n:=i) k9.hJ (Nat.le_trans k9.jc (Nat.le_trans (Nat.succ_le_succ cb) (by decide))) fun aG cM g2 bj dH=> ?_
 have hC:=k9.JQ bj g2 (Nat.le_trans (vx _ _ _) (Nat.succ_le_succ k9.jc))
 have hX:=Ext.app (H:=aG) [aM.list []]
 have un:=hX _ _ hC.o
 have g3:=bP (H:=aG) (m:= .list [])
 have fJ:=d4 (σ:=f_ [.ins 237 l]) (H:=aG) aJ (Nat.zero_le _)
 have eg:=hX.len
 generalize aG++[aM.list []]=H3 at*
 have Lf:=hX.oR.trans (dZ.set (l:=l) (m:=fu s bE lk lf aG.length f))
 have I5:=fQ (m:=fu s bE lk lf aG.length f) un
 have fy:=(List.getElem?_set_ne (a:=fu s bE lk lf aG.length f) (Nat.ne_of_lt (ew hC.o))).trans g3
 have gG:=oL (l:=l) (m:=fu s bE lk lf aG.length f) eg
 have i7:Run ((aq (dF 237 "begun" (aa 0) (dList [])) (aq (dF 237 "filled" (aa 0) (aj (.int 0))) aI)) (f_ [.ins 237 l]) aG) (Fin fun p=>p=(.none,(H3.set l (fu s bE lk lf aG.length f)).set l (fu s bE lk lf aG.length 0))):=U1 fJ rfl un (Jr (n:=0) aF rfl I5 ⟨_,rfl,rfl⟩)
 generalize H3.set l (fu s bE lk lf aG.length f)=cW at*
 exact k aG.length i cO _ (Run.is (cu (ge (bf (ak (bZ (ae rfl) X.yC) (ak aF (ak (dM (ae rfl) (X.sel (by kernel_rfl)) (ak (bZ (ae rfl) X.Dg) aJ) bY) aJ))) cM) i7) rfl)) ⟨WO,Uv,hC.Tv (Lf.trans .set) (fQ I5) ((List.getElem?_set_ne (Nat.ne_of_lt (ew hC.o))).trans fy) (Nat.le_refl _) (Nat.le_trans ej (Nat.le_trans cr dH))⟩ hi jr (Nat.le_trans cr (Nat.le_trans dH (oL gG)))
  (a6.trans ((bj.qw X.vH).trans ((Lf.trans .set).qw X.jJ)))
end
noncomputable def rowOf(bu:List (List Nat))(i:Nat):List Nat:=(bu[i]?).getD []
structure fT(s:Nat)(bu:List (List Nat))(fr bw:List c5)(q:List Nat):Prop where
 vI:∀x∈bu,x.length=s
 idx:∀i∈expand fr,i<bu.length
 eq:q=(expand fr).flatMap (rowOf bu)++expand bw
theorem Va{bu:List (List Nat)}{x:List Nat}{i:Nat}(h:i<bu.length):rowOf (bu++[x]) i=rowOf bu i:=by
 unfold rowOf;rw[List.getElem?_append_left h]
theorem OW{bu cO:List (List Nat)}{x:List Nat}(h:cO=bu∨cO=bu++[x]){l:List Nat}(au:∀i∈l,i<bu.length):l.flatMap (rowOf cO)=l.flatMap (rowOf bu):=by
 rcases h with rfl|rfl
 ·rfl
 ·induction l with
  |nil=>rfl
  |cons z l aK=>rw[List.flatMap_cons,List.flatMap_cons,aK fun i hi=>au i (List.mem_cons_of_mem _ hi),Va (au z (by simp))]
theorem U8(m s n:Nat):(List.replicate m (List.replicate s n)).flatten=List.replicate (m*s) n:=by
 induction m with
 |zero=>simp
 |succ m aK=>rw[List.replicate_succ,List.flatten_cons,aK,List.replicate_append_replicate,Nat.add_mul];congr 1;omega
theorem fT.found{s:Nat}{bu cO:List (List Nat)}{fr bw:List c5}{q x:List Nat}(S:fT s bu fr bw q)(jr:cO=bu∨cO=bu++[x])(af:x.length=s){i:Nat}(hi:cO[i]?=some x)(m:Nat):
 (∀y∈cO,y.length=s)∧(∀j∈expand (fU fr m i),j<cO.length)∧(expand (fU fr m i)).flatMap (rowOf cO)=(expand fr).flatMap (rowOf bu)++(List.replicate m x).flatten:=by
 have kA:=(List.getElem?_eq_some_iff.mp hi).1
 have hle:bu.length≤cO.length:=by rcases jr with rfl|rfl<;>simp
 refine⟨fun y aQ=> ?_,fun j bM=> ?_,?_⟩
 ·rcases jr with rfl|rfl
  ·exact S.vI y aQ
  ·rcases List.mem_append.mp aQ with h|h
   ·exact S.vI y h
   ·simp at h;subst h;exact af
 ·rw[tr] at bM
  rcases List.mem_append.mp bM with h|h
  ·exact Nat.lt_of_lt_of_le (S.idx j h) hle
  ·have:=List.eq_of_mem_replicate h;omega
 ·rw[tr,List.flatMap_append,OW jr S.idx]
  congr 1
  have:rowOf cO i=x:=by unfold rowOf;rw[hi];rfl
  rw[List.flatMap_replicate,this]
theorem fT.close{s:Nat}{bu cO:List (List Nat)}{fr bw:List c5}{q:List Nat}(S:fT s bu fr bw q)(jr:cO=bu∨cO=bu++[expand bw])(af:(expand bw).length=s){i:Nat}(hi:cO[i]?=some (expand bw)):fT s cO (fU fr 1 i) [] q:=by
 obtain⟨ag,ah,aE⟩:=S.found jr af hi 1
 refine⟨ag,ah,?_⟩
 rw[aE,S.eq];simp[expand]
theorem fT.whole{s:Nat}{bu cO:List (List Nat)}{fr bw:List c5}{q:List Nat}{n:Nat}(S:fT s bu fr bw q)(h0:expand bw=[])(jr:cO=bu∨cO=bu++[List.replicate s n]){i:Nat}(hi:cO[i]?=some (List.replicate s n))(m:Nat):fT s cO (fU fr m i) bw (q++List.replicate (m*s) n):=by
 obtain⟨ag,ah,aE⟩:=S.found jr (by simp) hi m
 refine⟨ag,ah,?_⟩
 rw[aE,S.eq,h0,U8];simp
theorem fT.part{s:Nat}{bu:List (List Nat)}{fr bw:List c5}{q:List Nat}(S:fT s bu fr bw q)(m n:Nat):fT s bu fr (fU bw m n) (q++List.replicate m n):=
 ⟨S.vI,S.idx,by rw[tr,S.eq,List.append_assoc]⟩
noncomputable def UB:b9:=(aq (b8 (ei [(bq .Eq (bp 237 "filled" (aa 0)) (aj (.int 0))),(bq .GtE (aa 3) (bp 237 "size" (aa 0)))]) (aq (bT 4 (bI .FloorDiv (aa 3) (bp 237 "size" (aa 0)))) (aq (c8 (aO lQ [(bp 237 "found" (aa 0)),(aa 4),(b5 (cI 237 "row_number" qI) (aa 0) [(dList [(cQ [(bp 237 "size" (aa 0)),(aa 2)])])])])) (aq (bT 3 (bI .Sub (aa 3) (bI .Mult (aa 4) (bp 237 "size" (aa 0))))) aI))) (aq (bT 5 (aO tv [(aa 3),(bI .Sub (bp 237 "size" (aa 0)) (bp 237 "filled" (aa 0)))])) (aq (c8 (aO lQ [(bp 237 "begun" (aa 0)),(aa 5),(aa 2)])) (aq (dF 237 "filled" (aa 0) (bI .Add (bp 237 "filled" (aa 0)) (aa 5))) (aq (bT 3 (bI .Sub (aa 3) (aa 5))) (aq (b8 (bq .Eq (bp 237 "filled" (aa 0)) (bp 237 "size" (aa 0))) (aq (c8 (b5 (cI 237 "close" sA) (aa 0) [])) aI) aI) aI)))))) aI)
noncomputable def ho(s left f:Nat):Nat:=if left=0 then 0 else if f=0 then(if left<s then 1 else 2)else 3
theorem Hg(s f:Nat):ho s 0 f=0:=rfl
theorem Tm{s left f:Nat}(h:0<left):0<ho s left f:=by
 unfold ho;rw[if_neg (by omega)]
 by_cases hf:f=0
 ·rw[if_pos hf];by_cases ah:left<s<;>simp[ah]
 ·rw[if_neg hf];omega
theorem Tj{s left:Nat}(h:0<left)(aY:s≤left):ho s left 0=2:=by
 unfold ho;rw[if_neg (by omega),if_pos rfl,if_neg (by omega)]
theorem Tl{s left:Nat}(aY:left<s):ho s left 0<2:=by
 unfold ho
 by_cases h:left=0
 ·rw[if_pos h];omega
 ·rw[if_neg h,if_pos rfl,if_pos aY];omega
theorem Hi(s left:Nat):ho s left 0<3:=by
 unfold ho
 by_cases h:left=0
 ·rw[if_pos h];omega
 ·rw[if_neg h,if_pos rfl]
  by_cases ah:left<s<;>simp[ah]
theorem Hh{s left f:Nat}(h:0<left)(hf:f≠0):ho s left f=3:=by
 unfold ho;rw[if_neg (by omega),if_neg hf]
section
variable{lo:Nat}{H H':ao}{l bE lk lf a4 s:Nat}{bu:List (List Nat)}{fr bw:List c5}{f N:Nat}
structure qP(lo:Nat)(H':ao)(l bE lk lf s:Nat)(n:Nat)(q:List Nat)(N taken:Nat)(en:Nat)(cO:List (List Nat))(e6 e':List c5):Prop where
 S:f8 lo H' l bE lk lf en s cO e6 e' (expand e').length N
 Q:fT s cO e6 e' (q++List.replicate taken n)
 lt:(expand e').length<s
theorem vE{a b:Int}(h:b.natAbs<2^30)(h0:b≠0):ik .FloorDiv (.int a) (.int b) H=some (.int (a.fdiv b),H):=by
 show(if b.natAbs<2^30∧b≠0 then some (a.fdiv b)else none).map _=_
 rw[if_pos ⟨h,h0⟩];rfl
theorem Td{s f left:Nat}(h:f≤s):(if(s:Int) -(f:Int)<(left:Int)then(s:Int) -(f:Int)else(left:Int))=((min left (s - f):Nat):Int):=by
 rw[←Int.ofNat_sub h,Nat.min_def];split<;>split<;>omega
theorem SJ(left s:Nat):(left:Int) -((left / s:Nat):Int)*(s:Int)=((left%s:Nat):Int):=by
 rw[←Int.natCast_mul,←Int.ofNat_sub (Nat.div_mul_le_self left s),Nat.mul_comm,Nat.mod_eq_sub_mul_div]
theorem OS(a b:Nat):(a:Int).fdiv b=((a / b:Nat):Int):=by rw[Int.fdiv_eq_ediv_of_nonneg _ (Int.natCast_nonneg _)];rfl
theorem UI{σ:aN}{left n:Nat}{q:List Nat}{bD:Out→Prop}{R:b9}(S:f8 lo H l bE lk lf a4 s bu fr bw (expand bw).length N)(Q:fT s bu fr bw q)(hf:(expand bw).length=0)(tV:0<s)(aY:s≤1000)(cb:N≤70000)(pU:left≤2000000)(ej:lo≤H.length)
 (s0:σ 0=some (.ins 237 l)) (s2:σ 2=some (.int n)) (s3:σ 3=some (.int left)) (k:∀ba H' cO e6,ba 0=some (.ins 237 l)→ba 2=some (.int n)→ba 3=some (.int (left%s:Nat))→qP lo H' l bE lk lf s n q (N+3) (left / s*s) a4 cO e6 bw→H.length≤H'.length→h3 lo H H'→Run (R ba H') bD):
 Run ((aq (bT 4 (bI .FloorDiv (aa 3) (bp 237 "size" (aa 0)))) (aq (c8 (aO lQ [(bp 237 "found" (aa 0)),(aa 4),(b5 (cI 237 "row_number" qI) (aa 0) [(dList [(cQ [(bp 237 "size" (aa 0)),(aa 2)])])])])) (aq (bT 3 (bI .Sub (aa 3) (bI .Mult (aa 4) (bp 237 "size" (aa 0))))) aI))) σ H) (n4 R bD):=by
 obtain⟨be,ps,X⟩:=S
 have a6:=Ext.app (H:=H) [aM.list [fD (s,n)]]
 have g1:=bP (H:=H) (m:= .list [fD (s,n)])
 have bY:∀{cJ:aN},cJ 0=some (.ins 237 l)→cJ 2=some (.int n)→dList [(cQ [(bp 237 "size" (aa 0)),(aa 2)])] cJ H=some (.loc H.length,H++[.list [fD (s,n)]]):=fun a b=>d4 (ak (et (ak (bZ (ae a) X.n9) (ak (ae b) aJ)) (show 2≤1000 by decide)) aJ) (show 1≤1000 by decide)
 have k9:=X.ext a6 (Nat.le_refl _)
 have cr:=a6.len
 generalize H++[aM.list [fD (s,n)]]=H1 at*
 have z:(expand [(s,n)]).length≤1000000:=by rw[pB,List.length_replicate];exact Nat.le_trans aY (by decide)
 refine Ei (L:=H.length) (rs:=[(s,n)]) ⟨be,ps,k9⟩ g1 (Nat.le_trans cb (by decide)) z (show 1≤1000000 by decide) (Nat.le_trans ej cr) fun i cO aG cM ⟨WP,Uw,hC⟩ hi jr dH bj=> ?_
 rw[pB] at hi jr
 refine vX (m:=left / s) (n:=i) hC.hJ (Nat.le_trans hC.jc (Nat.le_trans (Nat.succ_le_succ cb) (by decide))) fun H3 eE g3 cc eg=> ?_
 have Dc:=hC.JQ cc g3 (Nat.le_trans (vx _ _ _) (Nat.succ_le_succ hC.jc))
 have Xl:((left / s:Nat):Int).natAbs<2^31:=Nat.lt_of_le_of_lt (Nat.div_le_self _ _) (Nat.lt_of_le_of_lt pU (by decide))
 refine cq (cT (ae s3) (bZ (ae s0) X.n9) (vE (Nat.lt_of_le_of_lt aY (by decide)) fun e=>Nat.ne_of_gt tV (Int.ofNat.inj e))) ?_
 rw[OS]
 refine ge (bf (ak (bZ (ae s0) X.yC) (ak (ae rfl) (ak (dM (ae s0) (X.sel (by kernel_rfl)) (ak (bY s0 s2) aJ) cM) aJ))) eE) (cq (cT (ae s3) (cT (ae rfl) (bZ (ae s0) Dc.n9) (qZ ⟨Xl,Nat.lt_of_le_of_lt aY (by decide)⟩)) (sZ (SJ left s))) (gZ (k _ H3 cO (fU fr (left / s) i) s0 s2 rfl ⟨⟨WP,Uw,Dc.ext .refl (Nat.le_succ _)⟩,Q.whole (List.length_eq_zero_iff.mp hf) jr hi _,hf▸tV⟩ (Nat.le_trans cr (Nat.le_trans dH eg)) (a6.qw.trans (bj.trans (cc.qw X.vH))))))
theorem UG{σ:aN}{left n p:Nat}{q:List Nat}{bD:Out→Prop}{R:b9}(S:f8 lo H l bE lk lf a4 s bu fr bw (expand bw).length N)(Q:fT s bu fr bw q)(lt:(expand bw).length<s)(aY:s≤1000)(cb:N≤70000)(ej:lo≤H.length)
 (aH:p=min left (s -(expand bw).length)) (au:0<left) (s0:σ 0=some (.ins 237 l)) (s2:σ 2=some (.int n)) (s3:σ 3=some (.int left)) (k:∀ba H' en cO e6 e',ba 0=some (.ins 237 l)→ba 2=some (.int n)→ba 3=some (.int (left - p:Nat))→qP lo H' l bE lk lf s n q (N+3) p en cO e6 e'→
  ((expand bw).length+p=s→e'=[])→H.length≤H'.length→h3 lo H H'→Run (R ba H') bD):
 Run ((aq (bT 5 (aO tv [(aa 3),(bI .Sub (bp 237 "size" (aa 0)) (bp 237 "filled" (aa 0)))])) (aq (c8 (aO lQ [(bp 237 "begun" (aa 0)),(aa 5),(aa 2)])) (aq (dF 237 "filled" (aa 0) (bI .Add (bp 237 "filled" (aa 0)) (aa 5))) (aq (bT 3 (bI .Sub (aa 3) (aa 5))) (aq (b8 (bq .Eq (bp 237 "filled" (aa 0)) (bp 237 "size" (aa 0))) (aq (c8 (b5 (cI 237 "close" sA) (aa 0) [])) aI) aI) aI))))) σ H) (n4 R bD):=by
 obtain⟨be,ps,X⟩:=S
 have lA:p≤left:=aH▸Nat.min_le_left _ _
 have kD:(expand bw).length+p≤s:=by
  have:=Nat.add_le_add_left (aH▸Nat.min_le_right left (s -(expand bw).length)) (expand bw).length
  rwa[Nat.add_sub_cancel' (Nat.le_of_lt lt)] at this
 have Tg:tv [.int left, .int ((s:Int) -(expand bw).length)] H=some (.int p,H):=congrArg (fun z=>some (V.int z,H)) ((Td (Nat.le_of_lt lt)).trans (by rw[aH]))
 refine vX (m:=p) (n:=n) X.fK (Nat.le_trans X.jb (Nat.le_trans cb (by decide))) fun H1 bY g1 a6 cr=> ?_
 have k9:=X.setB a6 g1 (Nat.le_trans (vx _ _ _) (Nat.succ_le_succ X.jb))
 have bj:=dZ.set (l:=l) (H:=H1) (m:=fu s bE lk lf a4 ((expand bw).length+p))
 have hC:=k9.VA bj (fQ k9.o)
 have dH:=oL (l:=l) (m:=fu s bE lk lf a4 ((expand bw).length+p)) cr
 have sub:(left:Int) -(p:Int)=((left - p:Nat):Int):=(Int.ofNat_sub lA).symm
 refine cq (bf (ak (ae s3) (ak (cT (bZ (ae s0) X.n9) (bZ (ae s0) X.n8) rfl) aJ)) Tg) (ge (bf (ak (bZ (ae s0) X.Dg) (ak (ae rfl) (ak (ae s2) aJ))) bY) (Jr (n:=(expand bw).length+p) (cT (bZ (ae s0) k9.n8) (ae rfl) rfl) s0 k9.o (cq (cT (ae s3) (ae rfl) (sZ sub)) ?_)))
 have Co:=(a6.qw X.hE).trans (bj.qw X.jJ)
 have sN:=Q.part p n
 have D8:(expand (fU bw p n)).length=(expand bw).length+p:=by rw[tr,List.length_append,List.length_replicate]
 rw[←D8] at hC dH Co kD⊢
 generalize H1.set l (fu s bE lk lf a4 (expand (fU bw p n)).length)=aG at*
 by_cases dh:(expand (fU bw p n)).length=s
 ·refine NJ ⟨be,ps,hC⟩ (Nat.le_trans (Nat.succ_le_succ cb) (by decide)) (Nat.le_trans kD (Nat.le_trans aY (by decide))) (Nat.le_trans ej dH) fun en i cO H3 eE pd hi jr eg cc=> ?_
  exact fs (bV (bZ (ae s0) hC.n8) (bZ (ae s0) hC.n9) (congrArg some (beq_iff_eq.mpr (congrArg Int.ofNat dh)))) (ge (dM (ae s0) (hC.sel (by kernel_rfl)) aJ eE) (gZ (gZ (k _ H3 en cO (fU fr 1 i) [] s0 s2 rfl ⟨pd,sN.close jr dh hi,Nat.lt_of_le_of_lt (Nat.zero_le _) lt⟩ (fun _=>rfl) (Nat.le_trans dH eg) (Co.trans cc)))))
 ·exact c6 (bV (bZ (ae s0) hC.n8) (bZ (ae s0) hC.n9) (congrArg some (beq_eq_false_iff_ne.mpr fun e=>dh (Int.ofNat.inj e)))) (gZ (k _ aG a4 bu fr (fU bw p n) s0 s2 rfl ⟨⟨be,ps,hC.ext .refl (Nat.le_add_right _ 2)⟩,sN,Nat.lt_of_le_of_ne kD dh⟩ (fun e=>absurd (D8.trans e) dh) dH Co))
theorem UH{σ:aN}{left n:Nat}{q:List Nat}{bD:Out→Prop}(S:f8 lo H l bE lk lf a4 s bu fr bw (expand bw).length N)(Q:fT s bu fr bw q)(lt:(expand bw).length<s)(aY:s≤1000)(cb:N≤70000)(au:0<left)(pU:left≤2000000)(ej:lo≤H.length)
 (s0:σ 0=some (.ins 237 l)) (s2:σ 2=some (.int n)) (s3:σ 3=some (.int left))
 (k:∀ba H' en cO e6 e' t_ taken,ba 0=some (.ins 237 l)→ba 2=some (.int n)→ba 3=some (.int (t_:Nat))→taken+t_=left→qP lo H' l bE lk lf s n q (N+3) taken en cO e6 e'→
  ho s t_ (expand e').length<ho s left (expand bw).length→H.length≤H'.length→h3 lo H H'→bD (.next,ba,H')):Run (UB σ H) bD:=by
 have tV:=Nat.lt_of_le_of_lt (Nat.zero_le _) lt
 obtain⟨be,ps,X⟩:=S
 by_cases lu:(expand bw).length=0∧s≤left
 ·obtain⟨hf,F5⟩:=lu
  refine fs (g5 (bV (bZ (ae s0) X.n8) aF (congrArg some (beq_iff_eq.mpr (congrArg Int.ofNat hf)))) (g5 (bV (ae s3) (bZ (ae s0) X.n9) (h' (Int.ofNat_le.mpr F5))) sh)) (UI ⟨be,ps,X⟩ Q hf tV aY cb pU ej s0 s2 s3 fun ba H' cO e6 mi dC ig P cr a6=>⟨_,rfl,k ba H' a4 cO e6 bw (left%s) (left / s*s) mi dC ig (by rw[Nat.mul_comm];exact Nat.div_add_mod left s) P ?_ cr a6⟩)
  rw[hf,Tj au F5];exact Tl (Nat.mod_lt _ tV)
 ·have Qr:(ei [(bq .Eq (bp 237 "filled" (aa 0)) (aj (.int 0))),(bq .GtE (aa 3) (bp 237 "size" (aa 0)))]) σ H=some (false,H):=by
   by_cases hf:(expand bw).length=0
   ·exact g5 (bV (bZ (ae s0) X.n8) aF (congrArg some (beq_iff_eq.mpr (congrArg Int.ofNat hf)))) (fE (bV (ae s3) (bZ (ae s0) X.n9) (iA fun q=>lu ⟨hf,Int.ofNat_le.mp q⟩)))
   ·exact fE (bV (bZ (ae s0) X.n8) aF (congrArg some (beq_eq_false_iff_ne.mpr fun e=>hf (Int.ofNat.inj e))))
  refine r_ Qr (UG (p:=min left (s -(expand bw).length)) ⟨be,ps,X⟩ Q lt aY cb ej rfl au s0 s2 s3 fun ba H' en cO e6 e' mi dC ig P az cr a6=>⟨_,rfl,k ba H' en cO e6 e' _ _ mi dC ig (Nat.add_sub_cancel' (Nat.min_le_left _ _)) P ?_ cr a6⟩)
  by_cases dh:s -(expand bw).length≤left
  ·rw[az (by rw[Nat.min_eq_right dh];exact Nat.add_sub_cancel' (Nat.le_of_lt lt))]
   show ho s _ 0<_
   by_cases hf:(expand bw).length=0
   ·exact absurd ⟨hf,by rw[hf] at dh;exact dh⟩ lu
   ·rw[Hh au hf];exact Hi _ _
  ·rw[Nat.min_eq_left (Nat.le_of_not_le dh),Nat.sub_self,Hg];exact Tm au
end
theorem Tk(s left f:Nat):ho s left f≤3:=by
 by_cases h:left=0
 ·subst h;rw[Hg];omega
 ·by_cases hf:f=0
  ·subst hf;have:=Hi s left;omega
  ·rw[Hh (by omega) hf];omega
section
variable{lo l bE lk lf s n:Nat}
structure LP(lo:Nat)(dR:ao)(l bE lk lf s n:Nat)(q:List Nat)(total lR m:Nat)(σ:aN)(H:ao)(left taken N:Nat)(a4:Nat)(bu:List (List Nat))(fr bw:List c5):Prop where
 P:qP lo H l bE lk lf s n q N taken a4 bu fr bw
 sum:taken+left=total
 ho:ho s left (expand bw).length≤m
 N:N+3*m≤lR+9
 s0:σ 0=some (.ins 237 l)
 s2:σ 2=some (.int n)
 s3:σ 3=some (.int left)
 len:dR.length≤H.length
 x:h3 lo dR H
inductive LQ(lo:Nat)(dR:ao)(l bE lk lf s n:Nat)(q:List Nat)(total lR m:Nat)(σ:aN)(H:ao):Prop
 |mk (left taken N a4:Nat) (bu:List (List Nat)) (fr bw:List c5) (I:LP lo dR l bE lk lf s n q total lR m σ H left taken N a4 bu fr bw)
inductive LO(lo:Nat)(H:ao)(l bE lk lf s n:Nat)(q:List Nat)(left N:Nat)(p:V×ao):Prop
 |mk (v:p.1= .none) (a4:Nat) (bu:List (List Nat)) (fr bw:List c5) (P:qP lo p.2 l bE lk lf s n q (N+9) left a4 bu fr bw) (len:H.length≤p.2.length) (x:h3 lo H p.2)
inductive LS(lo:Nat)(H:ao)(l bE lk lf s:Nat)(q:List Nat)(rs:List c5)(N:Nat)(σ:aN)(i:Nat)(ba:aN)(H':ao):Prop
 |mk (a:∀j,j≠6→j≠7→ba j=σ j) (len:H.length≤H'.length) (x:h3 lo H H') (a4:Nat) (bu:List (List Nat)) (fr bw:List c5) (S:f8 lo H' l bE lk lf a4 s bu fr bw (expand bw).length (N+9*i)) (Q:fT s bu fr bw (q++expand (rs.take i))) (lt:(expand bw).length<s)
theorem Oa{G:Prop}{H:ao}{a4 left:Nat}{bu:List (List Nat)}{fr bw:List c5}{N:Nat}{q:List Nat}(S:f8 lo H l bE lk lf a4 s bu fr bw (expand bw).length N)(Q:fT s bu fr bw q)(lt:(expand bw).length<s)(aY:s≤1000)(cb:N≤60000)(au:left≤2000000)(ej:lo≤H.length)
 (k:∀H' en cO e6 e',oX [.ins 237 l, .int left, .int n] H=some (.none,H')→qP lo H' l bE lk lf s n q (N+9) left en cO e6 e'→H.length≤H'.length→h3 lo H H'→G):G:=by
 obtain⟨⟨_,H'⟩,e,rfl,en,cO,e6,e',P,cr,a6⟩:Run (oX [.ins 237 l, .int left, .int n] H) (LO lo H l bE lk lf s n q left N):=by
  refine cu (cq (ae rfl) (nC (Bx (LQ lo H l bE lk lf s n q left N) ?_ 64 3 _ H (by decide) ⟨left,0,N,a4,bu,fr,bw,⟨S,by rw[List.replicate_zero,List.append_nil];exact Q,lt⟩,Nat.zero_add _,Tk _ _ _,Nat.le_refl _,rfl,rfl,rfl,Nat.le_refl _,fun _ _ _ h=>h⟩))) rfl
  rintro m σ H1 ⟨t_,taken,N',en,cO,e6,e',I⟩
  by_cases h0:0<t_
  ·refine .go (bV (ae I.s3) aF (h' (Int.natCast_pos.mpr h0))) (UH I.P.S I.P.Q I.P.lt aY (Nat.le_trans (Nat.le_trans (Nat.le_add_right ..) I.N) (Nat.le_trans (Nat.add_le_add_right cb 9) (by decide))) h0 (Nat.le_trans (Nat.le_add_left ..) (Nat.le_trans (Nat.le_of_eq I.sum) au)) (Nat.le_trans ej I.len) I.s0 I.s2 I.s3 fun gy aG w0 BB gT iw SI gL mi dC ig Rl o9 FQ dH bj=> ?_)
   obtain⟨m,rfl⟩:∃k,m=k+1:=⟨m - 1,(Nat.succ_pred_eq_of_pos (Nat.lt_of_lt_of_le (Nat.lt_of_le_of_lt (Nat.zero_le _) FQ) I.ho)).symm⟩
   refine⟨m,Nat.lt_succ_self _,SI,taken+gL,N'+3,w0,BB,gT,iw,⟨o9.S,?_,o9.lt⟩,(Nat.add_assoc ..).trans ((congrArg (taken+ ·) Rl).trans I.sum),Nat.le_of_lt_succ (Nat.lt_of_lt_of_le FQ I.ho),?_,mi,dC,ig,Nat.le_trans I.len dH,I.x.trans bj⟩
   ·rw[←List.replicate_append_replicate,←List.append_assoc];exact o9.Q
   ·have:=I.N;rw[Nat.mul_succ,Nat.add_comm (3*m),←Nat.add_assoc] at this;exact this
  ·obtain rfl:=Nat.eq_zero_of_not_pos h0
   have e:=I.sum
   rw[Nat.add_zero] at e
   exact .stop (bV (ae I.s3) aF (iA (Int.lt_irrefl 0))) ⟨_,rfl,rfl,en,cO,e6,e',e▸⟨I.P.S.more (Nat.le_trans (Nat.le_add_right ..) I.N),I.P.Q,I.P.lt⟩,I.len,I.x⟩
 exact k H' en cO e6 e' e P cr a6
theorem Ve{rs:List c5}{r:c5}(h:r∈rs):r.1≤(expand rs).length:=by
 induction rs with
 |nil=>cases h
 |cons z rs aK=>
  unfold expand at aK⊢
  rw[List.flatMap_cons,List.length_append,List.length_replicate]
  rcases List.mem_cons.mp h with rfl|h
  ·omega
  ·have:=aK h;omega
theorem Jm{H dR:ao}{it:fH}{a4 L:Nat}{bu:List (List Nat)}{fr bw:List c5}{N:Nat}{q:List Nat}{rs:List c5}{σ:aN}{o:Nat}{R:b9}{K:Out→Prop}(hit:it σ dR=some (i2 L,H))(aT:o≠6)(ek:o≠7)(S:f8 lo H l bE lk lf a4 s bu fr bw (expand bw).length N)(Q:fT s bu fr bw q)(lt:(expand bw).length<s)(aY:s≤1000)(cb:N+9*rs.length≤60000)
 (az:(expand rs).length≤2000000) (ej:lo≤H.length) (bH:H[L]?=some (.list (rs.map fD))) (Fm:L<lo) (mw:σ o=some (.ins 237 l))
 (k:∀ba H' en cO e6 e',(∀j,j≠6→j≠7→ba j=σ j)→f8 lo H' l bE lk lf en s cO e6 e' (expand e').length (N+9*rs.length)→fT s cO e6 e' (q++expand rs)→(expand e').length<s→H.length≤H'.length→h3 lo H H'→Run (R ba H') K):
 Run (aq (dz it (gM [6,7]) (aq (c8 (b5 (cI 237 "put" oX) (aa o) [(aa 6),(aa 7)])) aI)) R σ dR) K:=by
 have aZ:rs.length≤60000:=Nat.le_trans (Nat.le_mul_of_pos_left _ (by decide)) (Nat.le_trans (Nat.le_add_left ..) cb)
 refine fB hit rs.length (Nat.le_trans aZ (by decide)) (LS lo H l bE lk lf s q rs N σ)
  ⟨fun _ _ _=>rfl,Nat.le_refl _,fun _ _ _ h=>h,a4,bu,fr,bw,S,by rw[List.take_zero];exact(List.append_nil q).symm▸Q,lt⟩ ?_ (fun b3 H1 ⟨_,_,ee,_,_,_,_,_,_,_⟩=>dJ (ee _ _ Fm bH) (List.getElem?_eq_none (Nat.le_of_eq (List.length_map _)))) ?_
 ·rintro i b3 H1 hi ⟨a1,a2,ee,AI,Jx,hh,pl,pb,o',p9⟩
  have lB:rs[i]?=some rs[i]:=List.getElem?_eq_getElem hi
  refine Oa (n:=rs[i].2) (left:=rs[i].1) pb o' p9 aY (Nat.le_trans (Nat.add_le_add_left (Nat.mul_le_mul_left 9 (Nat.le_of_lt hi)) _) cb) (Nat.le_trans (Ve (List.getElem_mem hi)) az) (Nat.le_trans ej a2) fun aG w0 BB gT iw cM o9 dH bj=> ?_
  obtain⟨be,ps,X⟩:=pb
  refine .mk (v:=fD rs[i]) (dJ (ee _ _ Fm bH) (by rw[List.getElem?_map,lB];rfl)) rfl (ge (dM (ae (show upd (upd b3 6 _) 7 _ o=_ by rw[m6,if_neg ek,m6,if_neg aT];exact(a1 o aT ek).trans mw)) (X.sel (by kernel_rfl)) (ak (ae rfl) (ak (ae rfl) aJ)) cM) (ez ⟨fun j iU pL=>(if_neg pL).trans ((if_neg iU).trans (a1 j iU pL)),Nat.le_trans a2 dH,ee.trans bj,w0,BB,gT,iw,o9.S,?_,o9.lt⟩))
  rw[hR lB,rd,←List.append_assoc]
  exact pB rs[i].1 rs[i].2▸o9.Q
 ·rintro b3 H1 ⟨a1,a2,ee,AI,Jx,hh,pl,pb,o',p9⟩
  rw[List.take_length] at o'
  exact k b3 H1 AI Jx hh pl a1 pb o' p9 a2 ee
theorem Ea{H:ao}{a4:Nat}{bu:List (List Nat)}{fr bw:List c5}{N:Nat}(S:f8 lo H l bE lk lf a4 s bu fr bw (expand bw).length N)(h0:(expand bw).length=0):u7 [.ins 237 l] H=some (.loc lf,H):=by
 obtain⟨be,ps,X⟩:=S
 rw[h0] at X
 exact Run.is (cu (c6 (bV (bZ (ae rfl) X.n8) aF (iA (Int.lt_irrefl 0))) (cN (bZ (ae rfl) X.yC) rfl)) rfl)
theorem fT.done{bu:List (List Nat)}{fr bw:List c5}{q:List Nat}(Q:fT s bu fr bw q)(aY:0<s)(lt:(expand bw).length<s)(bC:s∣q.length):(expand bw).length=0∧q=(expand fr).flatMap (rowOf bu)∧q.length=(expand fr).length*s∧∀i∈expand fr,(rowOf bu i).length=s:=by
 have F2:∀i∈expand fr,(rowOf bu i).length=s:=fun i hi=>by
  have:=Q.idx i hi
  unfold rowOf;rw[List.getElem?_eq_getElem this]
  exact Q.vI _ (List.getElem_mem ..)
 have hlen:=Ev (s:=s) (rowOf bu) F2
 have he:=Q.eq
 have au:q.length=(expand fr).length*s+(expand bw).length:=by rw[he,List.length_append,hlen]
 have h0:(expand bw).length=0:=by
  rw[au] at bC
  have ag:s∣(expand bw).length:=(Nat.dvd_add_right (Nat.dvd_mul_left s _)).mp bC
  exact Nat.eq_zero_of_dvd_of_lt ag lt
 refine⟨h0,?_,by omega,F2⟩
 rw[he,List.length_eq_zero_iff.mp h0,List.append_nil]
end
inductive k8(lo:Nat)(H:ao)(t:Nat)(nums:List Nat):Prop
 |mk (x:V) (nb:Nat) (o:H[t]?=some (xp x nb)) (g:H[nb]?=some (.list (nums.map rT))) (dn:lo≤t) (dU:lo≤nb)
inductive Rows(lo:Nat)(H:ao)(eo:Nat)(bu:List (List Nat)):Prop
 |mk (be:List Nat) (g:H[eo]?=some (.list (be.map (V.ins 188)))) (hS:be.length=bu.length) (row:∀(i t:Nat) (nums:List Nat),be[i]?=some t→bu[i]?=some nums→k8 lo H t nums) (le:lo≤eo)
theorem k8.ext{lo:Nat}{H H':ao}{t:Nat}{nums:List Nat}(x:Ext H H'):k8 lo H t nums→k8 lo H' t nums
 |⟨a,nb,c1,dE,dn,dU⟩=>⟨a,nb,x _ _ c1,x _ _ dE,dn,dU⟩
theorem k8.less{lo dW:Nat}{H:ao}{t:Nat}{nums:List Nat}(h:dW≤lo):k8 lo H t nums→k8 dW H t nums
 |⟨a,nb,c1,dE,dn,dU⟩=>⟨a,nb,c1,dE,Nat.le_trans h dn,Nat.le_trans h dU⟩
theorem k8.keep{lo:Nat}{H H':ao}{t:Nat}{nums:List Nat}(k:kg lo H.length H H'):k8 lo H t nums→k8 lo H' t nums
 |⟨a,nb,c1,dE,dn,dU⟩=>⟨a,nb,(k _ dn (ew c1)).trans c1,(k _ dU (ew dE)).trans dE,dn,dU⟩
theorem Rows.ext{lo:Nat}{H H':ao}{eo:Nat}{bu:List (List Nat)}(x:Ext H H'):Rows lo H eo bu→Rows lo H' eo bu
 |⟨be,g,hS,row,le⟩=>⟨be,x _ _ g,hS,fun i t nums a b=>(row i t nums a b).ext x,le⟩
theorem Rows.less{lo dW:Nat}{H:ao}{eo:Nat}{bu:List (List Nat)}(h:dW≤lo):Rows lo H eo bu→Rows dW H eo bu
 |⟨be,g,hS,row,le⟩=>⟨be,g,hS,fun i t nums a b=>(row i t nums a b).less h,Nat.le_trans h le⟩
theorem Rows.keep{lo:Nat}{H H':ao}{eo:Nat}{bu:List (List Nat)}(k:kg lo H.length H H'):Rows lo H eo bu→Rows lo H' eo bu
 |⟨be,g,hS,row,le⟩=>⟨be,(k _ le (ew g)).trans g,hS,fun i t nums a b=>(row i t nums a b).keep k,le⟩
theorem f8.rows{lo:Nat}{H:ao}{l bE lk lf a4 s:Nat}{bu:List (List Nat)}{fr bw:List c5}{f N:Nat}:f8 lo H l bE lk lf a4 s bu fr bw f N→Rows lo H bE bu
 |⟨be,_,X⟩=>⟨be,X.gC,X.hS,fun i t nums a b=>match X.row i t nums a b with|⟨x,nb,R⟩=>⟨x,nb,R.o,R.g,R.dn,R.dU⟩,X.e'⟩
noncomputable def Ca(a4 ar lv eo lm tt:Nat):aM:= .aS [("low_bits", .int a4),("mid_bits", .int ar),("values", .loc lv),("lows", .loc eo),("mids", .loc lm),("top", .ins 188 tt)]
inductive Trie(lo:Nat)(H:ao)(t a4 ar:Nat)(vs:List Val)(d8 d9:List (List Nat))(G:List Nat):Prop
 |mk (lv eo lm tt:Nat) (o:H[t]?=some (Ca a4 ar lv eo lm tt)) (lr:H[lv]?=some (.list (vs.map Val.v))) (L:Rows lo H eo d8) (M:Rows lo H lm d9) (T:k8 lo H tt G) (dn:lo≤t) (dU:lo≤lv)
theorem Trie.keep{lo:Nat}{H H':ao}{t a4 ar:Nat}{vs:List Val}{d8 d9:List (List Nat)}{G:List Nat}(k:kg lo H.length H H'):Trie lo H t a4 ar vs d8 d9 G→Trie lo H' t a4 ar vs d8 d9 G
 |⟨lv,eo,lm,tt,o,lr,L,M,T,dn,dU⟩=>⟨lv,eo,lm,tt,(k _ dn (ew o)).trans o,(k _ dU (ew lr)).trans lr,L.keep k,M.keep k,T.keep k,dn,dU⟩
theorem Trie.less{lo dW:Nat}{H:ao}{t a4 ar:Nat}{vs:List Val}{d8 d9:List (List Nat)}{G:List Nat}(h:dW≤lo):Trie lo H t a4 ar vs d8 d9 G→Trie dW H t a4 ar vs d8 d9 G
 |⟨lv,eo,lm,tt,o,lr,L,M,T,dn,dU⟩=>⟨lv,eo,lm,tt,o,lr,L.less h,M.less h,T.less h,Nat.le_trans h dn,Nat.le_trans h dU⟩
inductive Mn(a4 ar:Nat)(vs:List Val)(d8 d9:List (List Nat))(G:List Nat)(f:Int→Option Val)(c:Nat):Prop
 |mk (g:Nat) (M:List Nat) (w:Nat) (yo:List Nat) (k:Nat) (v:Val) (a1:G[c / 2^(a4+ar)]?=some g) (a2:d9[g]?=some M) (ee:M[c / 2^a4%2^ar]?=some w) (f9:d8[w]?=some yo) (g':yo[c%2^a4]?=some k) (mX:vs[k]?=some v) (Df:f c=some v)
noncomputable def Tells(a4 ar:Nat)(vs:List Val)(d8 d9:List (List Nat))(G:List Nat)(f:Int→Option Val):Prop:=∀c:Nat,c<1114112→Mn a4 ar vs d8 d9 G f c
theorem MJ(c b:Nat):Builtin.bitAnd (c:Int) (1*2^b - 1)=((c%2^b:Nat):Int):=by
 have h:((1:Int)*2^b - 1)=((2^b - 1:Nat):Int):=by
  have:=Nat.one_le_two_pow (n:=b)
  rw[Int.ofNat_sub this];simp
 rw[h]
 unfold Builtin.bitAnd
 have ag:decide ((0:Int)≤(c:Int))=true:=by simp
 have ah:decide ((0:Int)≤((2^b - 1:Nat):Int))=true:=by rw[decide_eq_true_eq];exact Int.natCast_nonneg _
 rw[ag,ah]
 show(((c:Int).toNat&&&((2^b - 1:Nat):Int).toNat:Nat):Int)=_
 rw[Int.toNat_natCast,Int.toNat_natCast,Nat.and_two_pow_sub_one_eq_mod]
section
variable{lo:Nat}{H:ao}
theorem Dw(c b:Nat):ik .BitAnd (.int c) (.int (1*2^b - 1)) H=some (.int (c%2^b:Nat),H):=congrArg (fun z=>some (V.int z,H)) (MJ c b)
theorem BH{b:Nat}(h:b≤100):ik .LShift (.int 1) (.int b) H=some (.int (1*2^b),H):=by
 show(if(0:Int)≤b∧(b:Int)≤100∧(1:Int).natAbs<2^64 then some ((1:Int)*2^(b:Int).toNat)else none).map _=_
 rw[if_pos ⟨Int.natCast_nonneg _,Int.ofNat_le.mpr h,by decide⟩,Int.toNat_natCast];rfl
theorem JV(c b:Nat):ik .RShift (.int c) (.int b) H=some (.int (c / 2^b:Nat),H):=by
 have q:wO .RShift (c:Int) (b:Int)=if(0:Int)≤b then some ((c:Int).fdiv (2^(b:Int).toNat))else none:=rfl
 have v:∀op a b,ik op (.int a) (.int b) H=(wO op a b).map fun r=>(V.int r,H):=fun _ _ _=>rfl
 rw[v,q,if_pos (Int.natCast_nonneg _),Int.toNat_natCast,Int.fdiv_eq_ediv_of_nonneg _ (Int.le_of_lt (Int.pow_pos (by decide))),Int.natCast_ediv,Int.natCast_pow];rfl
theorem JB{eo i n k:Nat}{bu:List (List Nat)}{nums:List Nat}(R:Rows lo H eo bu)(h:bu[i]?=some nums)(hi:i<2^60)(aD:nums[n]?=some k)(hz:n<2^60):∃t nb,f5 (.loc eo) (.int (i:Int)) H=some (.ins 188 t)∧gf 188 "numbers" (.ins 188 t) H=some (.loc nb)∧f5 (.loc nb) (.int (n:Int)) H=some (.int k):=by
 obtain⟨be,g,hS,row,le⟩:=R
 have bg:be[i]?=some (be[i]'(hS▸p_ h)):=List.getElem?_eq_getElem _
 obtain⟨x,nb,c1,dE,_,_⟩:=row i _ nums bg h
 exact⟨_,nb,j4 g (by rw[List.getElem?_map,bg];rfl) hi,eM c1 (by kernel_rfl) rfl,j4 dE (by rw[List.getElem?_map,aD];rfl) hz⟩
theorem Ob{t a4 ar:Nat}{vs:List Val}{d8 d9:List (List Nat)}{G:List Nat}{f:Int→Option Val}(T:Trie lo H t a4 ar vs d8 d9 G)(A:Tells a4 ar vs d8 d9 G f)(bH:d8.length<2^60)(l9:d9.length<2^60)(rr:vs.length<2^60)(ag:a4≤16)(ah:ar≤16){c:Nat}(aU:c<1114112):
 ∃v,f c=some v∧x7 [.ins 307 t, .int c] H=some (v.v,H):=by
 obtain⟨g,M,w,yo,k,v,a1,a2,ee,f9,g',mX,Df⟩:=A c aU
 obtain⟨lv,eo,lm,tt,o,lr,L,LM,⟨x,nb,c1,dE,_,_⟩,_,_⟩:=T
 have z:∀{a},a≤c→a<2^60:=fun h=>Nat.lt_of_le_of_lt h (Nat.lt_trans aU (by decide))
 obtain⟨Ym,nm,gH,jt,rP⟩:=JB LM a2 (Nat.lt_trans (p_ a2) l9) ee (z (Nat.le_trans (Nat.mod_le _ _) (Nat.div_le_self _ _)))
 obtain⟨hS,nl,cr,dH,eg⟩:=JB L f9 (Nat.lt_trans (p_ f9) bH) g' (z (Nat.mod_le _ _))
 have s0:=j4 dE (x:=rT g) (by rw[List.getElem?_map,a1];rfl) (z (Nat.div_le_self _ _))
 have s3:=j4 lr (x:=v.v) (by rw[List.getElem?_map,mX];rfl) (Nat.lt_trans (p_ mX) rr)
 have at':∀{n:Str} {u:V},cH n [("low_bits", .int a4),("mid_bits", .int ar),("values", .loc lv),("lows", .loc eo),("mids", .loc lm),("top", .ins 188 tt)]=some u→kP u=true→∀{σ:aN},σ 0=some (.ins 307 t)→bp 307 n (aa 0) σ H=some (u,H):=fun e bR _ s0=>bZ (ae s0) (eM o e bR)
 have yH:= @at' "low_bits" (.int a4) (by kernel_rfl) rfl
 have Dk:= @at' "mid_bits" (.int ar) (by kernel_rfl) rfl
 refine⟨v,Df,Run.is (cu (cq (cm (@at' "mids" (.loc lm) (by kernel_rfl) rfl _ rfl) (cm (bZ (@at' "top" (.ins 188 tt) (by kernel_rfl) rfl _ rfl) (eM c1 (by kernel_rfl) rfl)) (cT (ae rfl) (cT (yH rfl) (Dk rfl) rfl) (JV c (a4+ar))) s0) gH) (cq (cm (@at' "lows" (.loc eo) (by kernel_rfl) rfl _ rfl) (cm (bZ (ae rfl) jt) (cT (cT (ae rfl) (yH rfl) (JV c a4)) (cT (cT aF (Dk rfl) (BH (Nat.le_trans ah (by decide)))) aF rfl) (Dw _ ar)) rP) cr) (cN (cm (@at' "values" (.loc lv) (by kernel_rfl) rfl _ rfl) (cm (bZ (ae rfl) dH) (cT (ae rfl) (cT (cT aF (yH rfl) (BH (Nat.le_trans ag (by decide)))) aF rfl) (Dw c a4)) eg) s3) rfl))) rfl)⟩
end
theorem tells_of{r:List bh}(iz:Canon r){a4 ar:Nat}(aE:a4+ar≤16){vs:List Val}{rs hh gT pl iw:List c5}{d8 d9:List (List Nat)}(hm:(expand rs).map (fun n=>vs[n]?)=(full r).map some)
 (o':fT (2^a4) d8 hh pl (expand rs)) (p9:(expand pl).length<2^a4) (sN:fT (2^ar) d9 gT iw (expand hh)) (SY:(expand iw).length<2^ar):
 (expand pl).length=0∧(expand iw).length=0∧(expand gT).length*2^(a4+ar)=1114112∧(expand hh).length≤1114112∧(expand rs).length=1114112∧Tells a4 ar vs d8 d9 (expand gT) (cE r):=by
 obtain⟨QB,QC⟩:=EG iz
 have dT:0<2^a4:=Nat.pow_pos (by decide)
 have dC:0<2^ar:=Nat.pow_pos (by decide)
 have hlen:(expand rs).length=1114112:=by
  have:=congrArg List.length hm
  simp only[List.length_map] at this
  rw[this,QB]
 have Nd:(1114112:Nat)=17*2^16:=by decide
 have hd:∀k,k≤16→2^k∣1114112:=fun k aB=>by rw[Nd];exact Nat.dvd_mul_left_of_dvd (Nat.pow_dvd_pow 2 aB) 17
 obtain⟨dn,ak,cZ,bl⟩:=o'.done dT p9 (by rw[hlen];exact hd a4 (by omega))
 have fz:(expand hh).length*2^a4=1114112:=by rw[←cZ,hlen]
 have Qv:2^ar∣(expand hh).length:=by
  have ag:=hd (a4+ar) aE
  rw[←fz,Nat.pow_add,Nat.mul_comm (2^a4)] at ag
  exact Nat.dvd_of_mul_dvd_mul_right dT ag
 obtain⟨dU,bW,c',bN⟩:=sN.done dC SY Qv
 have QX:(expand hh).length≤1114112:=by rw[←fz];exact Nat.le_mul_of_pos_right _ dT
 have X6:(expand gT).length≤(expand hh).length:=by rw[c'];exact Nat.le_mul_of_pos_right _ dC
 refine⟨dn,dU,by rw[Nat.pow_add,Nat.mul_comm (2^a4),←Nat.mul_assoc,←c',fz],QX,hlen,fun c aU=> ?_⟩
 have Fs:c / 2^a4<(expand hh).length:=by rw[Nat.div_lt_iff_lt_mul dT,fz];exact aU
 have Qm:c / 2^a4 / 2^ar<(expand gT).length:=by rw[Nat.div_lt_iff_lt_mul dC,←c'];exact Fs
 obtain⟨w,hw⟩:∃w,(expand hh)[c / 2^a4]?=some w:=⟨_,List.getElem?_eq_getElem Fs⟩
 obtain⟨g,b6⟩:∃g,(expand gT)[c / 2^a4 / 2^ar]?=some g:=⟨_,List.getElem?_eq_getElem Qm⟩
 have rA:=o'.idx w (List.mem_of_getElem? hw)
 have QJ:=sN.idx g (List.mem_of_getElem? b6)
 have f1:=zp dT (rowOf d8) bl hw
 have f2:=zp dC (rowOf d9) bN b6
 rw[←ak] at f1
 rw[←bW] at f2
 have Qq:c<(expand rs).length:=by omega
 obtain⟨k,aB⟩:∃k,(expand rs)[c]?=some k:=⟨_,List.getElem?_eq_getElem Qq⟩
 have aR:=congrArg (fun l:List (Option Val)=>l[c]?) hm
 simp only[List.getElem?_map,aB,Option.map_some] at aR
 obtain⟨v,FD⟩:∃v,(full r)[c]?=some v:=⟨_,List.getElem?_eq_getElem (by omega)⟩
 rw[FD] at aR
 simp only[Option.map_some,Option.some.injEq] at aR
 have Re:d8[w]?=some (rowOf d8 w):=by unfold rowOf;rw[List.getElem?_eq_getElem rA];rfl
 have Rf:d9[g]?=some (rowOf d9 g):=by unfold rowOf;rw[List.getElem?_eq_getElem QJ];rfl
 refine⟨g,rowOf d9 g,w,rowOf d8 w,k,v,?_,Rf,by rw[←f2,hw],Re,by rw[←f1,aB],aR,by rw[←QC c aU,FD]⟩
 rw[Nat.pow_add,←Nat.div_div_eq_div_mul];exact b6
inductive lU(lo:Nat)(H:ao)(v:V)(f:Int→Option Val):Prop
 |mk (t a4 ar:Nat) (vs:List Val) (d8 d9:List (List Nat)) (G:List Nat) (aR:v= .ins 307 t) (T:Trie lo H t a4 ar vs d8 d9 G) (A:Tells a4 ar vs d8 d9 G f) (bH:d8.length<2^60) (l9:d9.length<2^60) (rr:vs.length<2^60) (ag:a4≤16) (ah:ar≤16)
section
variable{H:ao}{l a b:Nat}{d:Val}{r:List bh}
theorem N1{a4 ar lv eo lm tt:Nat}:newD 307 x8 [.int a4, .int ar, .loc lv, .loc eo, .loc lm, .ins 188 tt] H=some (.ins 307 H.length,H++[Ca a4 ar lv eo lm tt]):=by
 refine eNew (Run.is (cu ?_ rfl))
 rw[←List.append_nil (H++[aM.aS []])]
 exact jx (ae rfl) rfl (Nat.zero_le _) (jx (ae rfl) rfl (show 1≤900 by decide) (jx (ae rfl) rfl (show 2≤900 by decide) (jx (ae rfl) rfl (show 3≤900 by decide) (jx (ae rfl) rfl (show 4≤900 by decide) (jx (ae rfl) rfl (show 5≤900 by decide) ⟨_,rfl,by rw[List.append_nil];exact congrArg (fun o=>(V.none,H++[aM.aS o])) (by kernel_rfl)⟩)))))
theorem JU{b:Nat}(h:b≤100):ik .LShift (.int 1) (.int b) H=some (.int (2^b:Nat),H):=(BH h).trans (by rw[Int.one_mul,Int.natCast_pow];rfl)
theorem Kf{s:Nat}:fT s [] [] [] []:=⟨fun _ h=>(nomatch h),fun _ h=>(nomatch h),rfl⟩
theorem NI{a4 ar:Nat}(ag:1≤a4)(ah:1≤ar)(aE:a4+ar≤16):ye [.int a4, .int ar] H=some (.none,H):=
 Run.is (cu (c6 (mA (bV (ae rfl) aF (iA (Int.not_lt.mpr (Int.ofNat_le.mpr ag)))) (mA (bV (ae rfl) aF (iA (Int.not_lt.mpr (Int.ofNat_le.mpr ah)))) (mA (bV (cT (ae rfl) (ae rfl) rfl) aF (iA (Int.not_lt.mpr (Int.ofNat_le.mpr aE)))) xQ))) ⟨_,rfl,rfl⟩) rfl)
theorem N5{K:Prop}(ea:d3 H l a b d r)(iz:Canon r)(aD:r.length≤60){a4 ar:Nat}(ag:1≤a4)(ah:1≤ar)(aE:a4+ar≤16)(kX:2^a4≤1000)(ja:2^ar≤1000)(sq:1114112 / 2^(a4+ar)≤100000)
 (k:∀t H',u5 [.ins 139 l, .int a4, .int ar] H=some (.ins 307 t,H')→lU H.length H' (.ins 307 t) (cE r)→Ext H H'→K):K:=by
 have AJ:=Nat.le_trans (Nat.le_add_right a4 ar) aE
 have G':=Nat.le_trans (Nat.le_add_left ar a4) aE
 have dT:0<2^a4:=Nat.pow_pos (by decide)
 have dC:0<2^ar:=Nat.pow_pos (by decide)
 refine Oe ea iz (Nat.le_trans aD (by decide)) fun H1 vs rs bY lr gC hm Rg wI a6=> ?_
 have z2:=Nat.le_trans Rg aD
 have hlen:(expand rs).length=1114112:=by
  have:=congrArg List.length hm
  rw[List.length_map,List.length_map,(EG iz).1] at this;exact this
 have cC:2^a4∣(expand rs).length:=by
  rw[hlen,show(1114112:Nat)=17*2^16 by decide];exact Nat.dvd_mul_left_of_dvd (Nat.pow_dvd_pow 2 AJ) 17
 refine Ef (H:=H1) (2^a4) fun aG cM LT bj=> ?_
 obtain⟨⟨_,H'⟩,e,t,rfl,Mm,x⟩:Run (u5 [.ins 139 l, .int a4, .int ar] H) fun p=>∃t,p.1= .ins 307 t∧lU H.length p.2 (.ins 307 t) (cE r)∧Ext H p.2:=by
  refine cu (ge (bf (ak (ae rfl) (ak (ae rfl) aJ)) (NI ag ah aE)) (xn (bf (ak (ae rfl) aJ) bY) rfl (cq (bf (ak (cT aF (ae rfl) (JU (Nat.le_trans AJ (by decide)))) aJ) cM) ?_))) rfl
  refine Jm (el (ae rfl) (fo (bj _ _ gC))) (by decide) (by decide) LT Kf dT kX (show 0+9*rs.length≤60000 from Nat.le_trans (Nat.le_of_eq (Nat.zero_add _)) (Nat.le_trans (Nat.mul_le_mul_left 9 z2) (by decide))) (hlen▸by decide) bj.len (bj _ _ gC) (ew gC) rfl fun Cw H3 AI d8 hh pl ee pd vk AN _ cc=> ?_
  rw[List.nil_append] at vk
  have hX:=bj.low cc
  obtain⟨_,_,cZ,_⟩:=vk.done dT AN cC
  have PY:(expand hh).length≤1114112:=by rw[←hlen,cZ];exact Nat.le_mul_of_pos_right _ dT
  have zI:H3[H1.length+3]?=some (.list (hh.map fD)):=match pd with|⟨_,_,X⟩=>X.hJ
  have Ae:hh.length≤540:=match pd with|⟨_,_,X⟩=>Nat.le_trans X.jc (Nat.le_trans (Nat.le_of_eq (Nat.zero_add _)) (Nat.mul_le_mul_left 9 z2))
  refine Ef (H:=H3) (2^ar) fun cW fY LU dK=> ?_
  have Qy:=(vk.done dT AN cC).1
  have s5:Cw 5=some (.ins 237 H1.length):=ee 5 (by decide) (by decide)
  have Vr:∀{G} {F:bz},Ext H3 G→cI 237 "finish" F (.ins 237 H1.length) G=some (F,true):=fun x=>match pd.ext x with|⟨_,_,X⟩=>X.sel (by kernel_rfl)
  refine cq (bf (ak (cT aF (ae (ee 2 (by decide) (by decide))) (JU (Nat.le_trans G' (by decide)))) aJ) fY) ?_
  refine Jm (el (dM (ae s5) (Vr dK) aJ (Ea (pd.ext dK) Qy)) (fo (dK _ _ zI))) (by decide) (by decide) LU Kf dC ja (show 0+9*hh.length≤60000 from Nat.le_trans (Nat.le_of_eq (Nat.zero_add _)) (Nat.le_trans (Nat.mul_le_mul_left 9 Ae) (by decide))) (Nat.le_trans PY (by decide)) dK.len (dK _ _ zI) (ew zI) rfl fun XO fj w0 d9 gT iw g' pe CO SZ _ gg=> ?_
  rw[List.nil_append] at CO
  have qF:=dK.low gg
  obtain⟨dn,dU,m9,_,_,tells⟩:=tells_of iz aE hm vk AN CO SZ
  have P0:(expand gT).length≤100000:=by
   rw[←m9,Nat.mul_div_cancel _ (Nat.pow_pos (by decide))] at sq;exact sq
  have yq:=pd.ext qF
  have Mw:gf 237 "rows" (.ins 237 H1.length) fj=some (.loc (H1.length+1)):=match yq with|⟨_,_,X⟩=>X.yD
  have Mx:gf 237 "rows" (.ins 237 H3.length) fj=some (.loc (H3.length+1)):=match pe with|⟨_,_,X⟩=>X.yD
  have Vs:∀{F:bz},cI 237 "finish" F (.ins 237 H3.length) fj=some (F,true):=match pe with|⟨_,_,X⟩=>X.sel (by kernel_rfl)
  have PJ:fj[H3.length+3]?=some (.list (gT.map fD)):=match pe with|⟨_,_,X⟩=>X.hJ
  have AZ:d8.length<2^60:=match yq with|⟨_,_,X⟩=>Nat.lt_of_le_of_lt X.oU (Nat.lt_of_le_of_lt (Nat.le_trans (Nat.le_of_eq (Nat.zero_add _)) (Nat.mul_le_mul_left 9 z2)) (by decide))
  have Ts:d9.length<2^60:=match pe with|⟨_,_,X⟩=>Nat.lt_of_le_of_lt X.oU (Nat.lt_of_le_of_lt (Nat.le_trans (Nat.le_of_eq (Nat.zero_add _)) (Nat.mul_le_mul_left 9 Ae)) (by decide))
  have Tr:gT.length≤1000000:=match pe with|⟨_,_,X⟩=>Nat.le_trans X.jc (Nat.le_trans (Nat.le_trans (Nat.le_of_eq (Nat.zero_add _)) (Nat.mul_le_mul_left 9 Ae)) (by decide))
  refine Ee (H:=fj) PJ (Nat.le_trans P0 (by decide)) Tr fun d0 oI c1 dE eV=> ?_
  have x4:=eV.trans (.app [Ca a4 ar H.length (H1.length+1) (H3.length+1) fj.length])
  have eA:∀j,j≠6→j≠7→j≠8→XO j=Cw j:=fun j a b c=>(g' j a b).trans (if_neg c)
  have cr:=a6.len
  have eg:=Nat.le_trans cr hX.len
  exact cN (bf (ak (ae ((eA 1 (by decide) (by decide) (by decide)).trans (ee 1 (by decide) (by decide)))) (ak (ae ((eA 2 (by decide) (by decide) (by decide)).trans (ee 2 (by decide) (by decide)))) (ak (ae ((eA 3 (by decide) (by decide) (by decide)).trans (ee 3 (by decide) (by decide))))
   (ak (bZ (ae ((eA 5 (by decide) (by decide) (by decide)).trans s5)) Mw) (ak (bZ (ae (g' 8 (by decide) (by decide))) Mx) (ak (bf (ak (dM (ae (g' 8 (by decide) (by decide))) Vs aJ (Ea pe dU)) aJ) oI) aJ)))))) N1)
   ⟨d0.length,rfl,⟨_,a4,ar,vs,d8,d9,expand gT,rfl,⟨_,_,_,_,bP,x4 _ _ (qF _ _ (hX _ _ lr)),(yq.rows.ext x4).less cr,(pe.rows.ext x4).less eg,⟨_,_,Ext.app _ _ _ c1,Ext.app _ _ _ dE,Nat.le_trans eg qF.len,Nat.le_succ_of_le (Nat.le_trans eg qF.len)⟩,Nat.le_trans eg (Nat.le_trans qF.len eV.len),Nat.le_refl _⟩,tells,AZ,Ts,Nat.lt_of_le_of_lt (Nat.le_trans wI aD) (by decide),AJ,G'⟩,a6.trans (hX.trans (qF.trans x4))⟩
 exact k t H' e Mm x
end
theorem qi(x y:Str)(v:V):∀ps:List (Str×V),cH x (b0 y v ps)=if y=x then some v else cH x ps
 |[]=>by simp[b0,cH]
 |(z,u)::ps=>by
  have aK:=qi x y v ps
  simp only[b0]
  by_cases hz:z=y
  ·subst hz
   rw[if_pos rfl]
   simp only[cH]
   by_cases af:z=x<;>simp[af]
  ·rw[if_neg hz]
   simp only[cH]
   by_cases af:z=x
   ·subst af;rw[if_pos rfl,if_neg (Ne.symm hz),if_pos rfl]
   ·rw[if_neg af,aK,if_neg af]
theorem Trie.ext{lo:Nat}{H H':ao}{t a4 ar:Nat}{vs:List Val}{d8 d9:List (List Nat)}{G:List Nat}(x:Ext H H'):Trie lo H t a4 ar vs d8 d9 G→Trie lo H' t a4 ar vs d8 d9 G
 |⟨lv,eo,lm,tt,o,lr,L,M,T,dn,dU⟩=>⟨lv,eo,lm,tt,x _ _ o,x _ _ lr,L.ext x,M.ext x,T.ext x,dn,dU⟩
theorem lU.keep{lo:Nat}{H H':ao}{v:V}{f:Int→Option Val}(k:kg lo H.length H H'):lU lo H v f→lU lo H' v f
 |⟨t,a4,ar,vs,d8,d9,G,aR,T,A,bH,l9,rr,ag,ah⟩=>⟨t,a4,ar,vs,d8,d9,G,aR,T.keep k,A,bH,l9,rr,ag,ah⟩
theorem lU.ext{lo dW:Nat}{H H':ao}{v:V}{f:Int→Option Val}(x:Ext H H')(h:dW≤lo):lU lo H v f→lU dW H' v f
 |⟨t,a4,ar,vs,d8,d9,G,aR,T,A,bH,l9,rr,ag,ah⟩=>⟨t,a4,ar,vs,d8,d9,G,aR,(T.ext x).less h,A,bH,l9,rr,ag,ah⟩
noncomputable def vP(dd m p w:Nat):aM:= .aS [("defaults", .loc dd),("maps", .loc m),("properties", .loc p),("words", .loc w)]
noncomputable def vZ(dd m p w fF:Nat):aM:= .aS [("defaults", .loc dd),("maps", .loc m),("properties", .loc p),("words", .loc w),("tries", .loc fF)]
inductive kd(lo:Nat)(H:ao)(a3 aV:Nat)(g:Str→Option (List bh)):Prop
 |mk (dd m p w fF:Nat) (hV:List (Str×V)) (o:H[aV]?=some (vP dd m p w)) (f:H[a3]?=some (vZ dd m p w fF)) (t:H[fF]?=some (.aS hV)) (dn:lo≤a3) (dU:lo≤fF)
  (no:∀x,g x=none→cH x hV=none) (all:∀x r,g x=some r→∃v,cH x hV=some v∧lU lo H v (cE r))
theorem kd.keep{lo dW N:Nat}{H H':ao}{a3 aV:Nat}{g:Str→Option (List bh)}{ms pr a_}(F:kd lo H a3 aV g)(D:Dat dW N H aV ms pr a_)(ej:dW≤lo)(k:kg dW H.length H H'):kd lo H' a3 aV g:=by
 obtain⟨dd,m,p,w,fF,hV,o,f,t,dn,dU,no,all⟩:=F
 obtain⟨_,_,_,_,E⟩:=D.ex
 exact⟨dd,m,p,w,fF,hV,(k _ E.jJ (ew o)).trans o,(k _ (Nat.le_trans ej dn) (ew f)).trans f,(k _ (Nat.le_trans ej dU) (ew t)).trans t,dn,dU,no,fun x r af=>match all x r af with|⟨v,aR,T⟩=>⟨v,aR,T.keep fun j bM au=>k j (Nat.le_trans ej bM) au⟩⟩
section
variable{lo N:Nat}{H:ao}{aV:Nat}{ms:cG}
theorem NZ{dd m p w fF:Nat}(o:H[aV]?=some (vP dd m p w)):newD 496 x9 [.ins 461 aV, .loc fF] H=some (.ins 496 H.length,H++[vZ dd m p w fF]):=by
 refine eNew (Run.is (cu ?_ rfl))
 rw[←List.append_nil (H++[aM.aS []])]
 have at':∀{n:Str} {u:V},cH n [("defaults", .loc dd),("maps", .loc m),("properties", .loc p),("words", .loc w)]=some u→kP u=true→∀{X:List aM} {σ:aN},σ 1=some (.ins 461 aV)→bp 461 n (aa 1) σ (H++X++[])=some (u,H++X++[]):=fun e bR _ _ s0=>bZ (ae s0) (eM (((Ext.app _).trans (.app _)) _ _ o) e bR)
 exact jx (@at' "defaults" (.loc dd) (by kernel_rfl) rfl _ _ rfl) rfl (Nat.zero_le _) (jx (@at' "maps" (.loc m) (by kernel_rfl) rfl _ _ rfl) rfl (show 1≤900 by decide) (jx (@at' "properties" (.loc p) (by kernel_rfl) rfl _ _ rfl) rfl (show 2≤900 by decide) (jx (@at' "words" (.loc w) (by kernel_rfl) rfl _ _ rfl) rfl (show 3≤900 by decide) (jx (ae rfl) rfl (show 4≤900 by decide) ⟨_,rfl,by rw[List.append_nil];exact congrArg (fun o=>(V.none,H++[aM.aS o])) (by kernel_rfl)⟩))))
inductive Lz(H:ao)(aV a4 ar:Nat)(ms:cG)(i:Nat)(σ:aN)(H':ao):Prop
 |mk (s0:σ 0=some (.ins 461 aV)) (s1:σ 1=some (.int a4)) (s2:σ 2=some (.int ar)) (s3:σ 3=some (.loc H.length)) (x:Ext H H') (dA:H'[H.length+1]?=some (.list ((dl ms).map .str))) (hV:List (Str×V)) (gt:H'[H.length]?=some (.aS hV))
  (no:∀x,x∉(dl ms).take i→cH x hV=none) (all:∀x∈(dl ms).take i,∀r,bO ms x=some r→∃v,cH x hV=some v∧lU (H.length+2) H' v (cE r)) (oq:hV.length≤i)
theorem V6(D:Dat lo N H aV ms pr a_){x:Str}{r:List bh}(h:bO ms x=some r):x∈dl ms:=by
 unfold bO at h
 cases bC:cY x ms with
 |none=>rw[bC] at h;cases h
 |some q=>
  obtain⟨hw,_⟩:=D.at (l:=q.1) (r:=q.2) bC
  unfold dl
  rcases hw with rfl|rfl
  ·rw[List.mem_append];right;rw[bC];exact .head _
  ·rw[List.mem_append];left;rw[bC];exact .head _
theorem NQ{G:Prop}{pr a_}(D:Dat lo N H aV ms pr a_)(cb:N≤60){a4 ar:Nat}(ag:1≤a4)(ah:1≤ar)(aE:a4+ar≤16)(kX:2^a4≤1000)(ja:2^ar≤1000)(sq:1114112 / 2^(a4+ar)≤100000)
 (k:∀a3 H',sD [.ins 461 aV, .int a4, .int ar] H=some (.ins 496 a3,H')→kd H.length H' a3 aV (bO ms)→Ext H H'→G):G:=by
 obtain⟨dd,m,p,w,E⟩:=D.ex
 have a6:=Ext.app (H:=H) [aM.aS []]
 have g1:=bP (H:=H) (m:= .aS [])
 have cr:(H++[aM.aS []]).length=H.length+1:=List.length_append
 have nw:∀σ:aN,kq (.aS []) σ H=some (.loc H.length,H++[aM.aS []]):=fun _=>rfl
 have mw:=B0 (a6 _ _ E.eQ) D.ju fun e he=>(D.i0 e he).1
 generalize H++[aM.aS []]=H1 at*
 have qE:=a6.trans (.app [aM.list ((dl ms).map .str)])
 have g2:=bP (H:=H1) (m:= .list ((dl ms).map .str))
 have ov:=Ext.app [aM.list ((dl ms).map .str)] _ _ g1
 generalize H1++[aM.list ((dl ms).map .str)]=aG at*
 rw[cr] at g2 mw
 obtain⟨⟨_,H'⟩,e,a3,rfl,F,x⟩:Run (sD [.ins 461 aV, .int a4, .int ar] H) fun p=>∃a3,p.1= .ins 496 a3∧kd H.length p.2 a3 aV (bO ms)∧Ext H p.2:=by
  refine cu (cq (nw _) (fB (el (bf (ak (bZ (ae rfl) (eM (a6 _ _ E.go) (by kernel_rfl) rfl)) aJ) mw) (fo g2)) (dl ms).length (Nat.le_trans nH (by decide)) (Lz H aV a4 ar ms) ⟨rfl,rfl,rfl,rfl,qE,g2,[],ov,fun _ _=>rfl,fun x af=>(nomatch af),Nat.le_refl _⟩ ?_ (fun σ H' ⟨_,_,_,_,_,dA,_,_,_,_,_⟩=>dJ dA (List.getElem?_eq_none (Nat.le_of_eq (List.length_map _)))) ?_)) rfl
  ·rintro i σ H3 hi ⟨s0,s1,s2,s3,x,dA,hV,gt,no,all,oq⟩
   have kF:(dl ms)[i]?=some (dl ms)[i]:=List.getElem?_eq_getElem hi
   obtain⟨af,⟨l,r⟩,au⟩:=oP (List.getElem_mem hi)
   generalize (dl ms)[i]=y at*
   obtain⟨_,a,b,M⟩:=(D.keep x.keep).at au
   have tS:=mr y ms
   rw[au] at tS
   refine N5 M.ea M.iz (Nat.le_trans M.nn cb) ag ah aE kX ja sq fun t cW fY T dK=> ?_
   have Fd:=dK _ _ gt
   have Sx:H.length+2≤H3.length:=ew dA
   have ks:∀{j:Nat} {o:aM},j≠H.length→cW[j]?=some o→(cW.set H.length (.aS (b0 y (.ins 307 t) hV)))[j]?=some o:=fun n h=>(List.getElem?_set_ne n.symm).trans h
   have Gx:kg (H.length+2) cW.length cW (cW.set H.length (.aS (b0 y (.ins 307 t) hV))):=fun j bM _=>List.getElem?_set_ne (Nat.ne_of_lt (Nat.lt_of_lt_of_le (Nat.lt_succ_of_lt (Nat.lt_succ_self _)) bM))
   refine .mk (v:= .str y) (dJ dA (by rw[List.getElem?_map,kF];rfl)) rfl (jW (NB aF rfl (ak (cm (bZ (ae s0) (eM (x _ _ E.go) (by kernel_rfl) rfl)) (ae rfl) (gw (x _ _ E.eQ) tS)) (ak (ae s1) (ak (ae s2) aJ))) fY) (ae s3) (ae rfl) (qC Fd (Nat.le_trans oq (Nat.le_trans (Nat.le_of_lt hi) (Nat.le_trans nH (by decide))))) (ez ⟨s0,s1,s2,s3,fun j o h=>ks (Nat.ne_of_lt (ew h)) (dK _ _ (x j o h)),ks (Nat.succ_ne_self _) (dK _ _ dA),_,fQ Fd,fun z hz=> ?_,fun z hz da wH=> ?_,Nat.le_trans (l7 _ _ _) (Nat.succ_le_succ oq)⟩))
   ·rw[hR kF,List.mem_append,not_or,List.mem_singleton] at hz
    rw[qi,if_neg (Ne.symm hz.2)]
    exact no z hz.1
   ·rw[qi]
    by_cases kG:y=z
    ·subst kG
     rw[if_pos rfl]
     have z1:da=r:=by unfold bO at wH;rw[au] at wH;exact(Option.some.inj wH).symm
     exact⟨_,rfl,(z1▸T.ext .refl Sx).keep Gx⟩
    ·rw[if_neg kG]
     rw[hR kF,List.mem_append,List.mem_singleton] at hz
     obtain⟨v,aR,qX⟩:=all z (hz.resolve_right (Ne.symm kG)) da wH
     exact⟨v,aR,(qX.ext dK (Nat.le_refl _)).keep Gx⟩
  ·rintro σ H3 ⟨s0,s1,s2,s3,x,dA,hV,gt,no,all,oq⟩
   rw[List.take_length] at no all
   refine cN (bf (ak (ae s0) (ak (ae s3) aJ)) (NZ (x _ _ E.go))) ⟨H3.length,rfl,⟨dd,m,p,w,H.length,hV,(x.trans (.app _)) _ _ E.go,bP,Ext.app _ _ _ gt,x.len,Nat.le_refl _,fun y aQ=>no y fun q=> ?_,fun y r aQ=> ?_⟩,x.trans (.app _)⟩
   ·obtain⟨_,oG,bC⟩:=oP q
    unfold bO at aQ;rw[bC] at aQ;cases aQ
   ·obtain⟨v,aR,T⟩:=all y (V6 D aQ) r aQ
    exact⟨v,aR,T.ext (.app _) (Nat.le_add_right _ _)⟩
 exact k a3 H' e F x
end
section
variable{lo dW N:Nat}{H:ao}{a3 aV:Nat}{ms:cG}{pr:List (Str×V)}{a_:List (List Str×V)}
theorem re{dd m p w fF:Nat}{n:Str}{u:V}{σ:aN}(f:H[a3]?=some (vZ dd m p w fF))(e:cH n [("defaults", .loc dd),("maps", .loc m),("properties", .loc p),("words", .loc w),("tries", .loc fF)]=some u)(bR:kP u=true)(s0:σ 0=some (.ins 496 a3)):bp 496 n (aa 0) σ H=some (u,H):=bZ (ae s0) (eM f e bR)
theorem DX{dd m p w DZ m' i3 mH:Nat}(h:H[aV]?=some (vP dd m p w))(ax:H[aV]?=some (vP DZ m' i3 mH)):dd=DZ∧m=m':=by
 rw[h] at ax;cases ax;exact⟨rfl,rfl⟩
theorem Nm(D:Dat dW N H aV ms pr a_){x:Str}(af:bO ms x=none)(n:Int):hZ [.ins 461 aV, .str x, .int n] H=some ((cH x jo).getD .none,H):=by
 obtain⟨dd,m,p,w,E⟩:=D.ex
 have hm:=mr x ms
 have au:cY x ms=none:=by unfold bO at af;exact Option.map_eq_none_iff.mp af
 rw[au] at hm
 exact Run.is (cu (c6 (bV (ae rfl) (bZ (ae rfl) E.iQ) (jl E.eQ hm)) (cN (dM (bZ (ae rfl) E.sU) (uD E.gB) (ak (ae rfl) aJ) (tu E.gB rfl)) rfl)) rfl)
theorem zv(F:kd lo H a3 aV (bO ms))(D:Dat dW N H aV ms pr a_){x:Str}(af:bO ms x=none)(n:Int):jC [.ins 496 a3, .str x, .int n] H=some ((cH x jo).getD .none,H):=by
 obtain⟨dd,m,p,w,fF,hV,o,f,t,_,_,no,_⟩:=F
 obtain⟨_,_,_,_,E⟩:=D.ex
 obtain⟨rfl,rfl⟩:=DX o E.go
 exact Run.is (cu (c6 (bV (ae rfl) (re f (u:= .loc fF) (by kernel_rfl) rfl rfl) (jl t (no x af))) (cN (dM (re f (u:= .loc dd) (by kernel_rfl) rfl rfl) (uD E.gB) (ak (ae rfl) aJ) (tu E.gB rfl)) rfl)) rfl)
theorem NR(F:kd lo H a3 aV (bO ms))(D:Dat dW N H aV ms pr a_){x:Str}(af:ca x){n:Nat}(aD:n<1114112):∃w,cE (rowsOf (bO ms x) x) n=some w∧jC [.ins 496 a3, .str x, .int n] H=some (w.v,H):=by
 cases aZ:bO ms x with
 |none=>exact⟨defOf x,zF _ (Int.natCast_nonneg _),(zv F D aZ n).trans (by rw[ti af];rfl)⟩
 |some r=>
  obtain⟨dd,m,p,w,fF,hV,o,f,t,_,_,_,all⟩:=F
  obtain⟨v,aR,⟨j1,a4,ar,vs,d8,d9,G,rfl,T,A,kX,ja,sq,XJ,XK⟩⟩:=all x r aZ
  obtain⟨u,bR,e⟩:=Ob T A kX ja sq XJ XK aD
  obtain⟨lv,eo,lm,tt,cF,_,_,_,_,_,_⟩:=T
  exact⟨u,bR,Run.is (cu (fs (bV (ae rfl) (re f (u:= .loc fF) (by kernel_rfl) rfl rfl) (jl t aR)) (cN (dM (cm (re f (u:= .loc fF) (by kernel_rfl) rfl rfl) (ae rfl) (gw t aR)) (jX cF (by kernel_rfl)) (ak (ae rfl) aJ) e) rfl)) rfl)⟩
theorem S9(F:kd lo H a3 aV (bO ms))(D:Dat dW N H aV ms pr a_){x:Str}{l:Nat}{r:List bh}(h:cY x ms=some (l,r)):
 oW [.ins 461 aV, .str x] H=some (.ins 139 l,H)∧sx [.ins 496 a3, .str x] H=some (.ins 139 l,H):=by
 obtain⟨dd,m,p,w,fF,hV,o,f,_,_,_,_,_⟩:=F
 obtain⟨_,_,_,_,E⟩:=D.ex
 obtain⟨rfl,rfl⟩:=DX o E.go
 have hm:=mr x ms
 rw[h] at hm
 exact⟨Run.is (cu (c6 (bV (ae rfl) (bZ (ae rfl) E.iQ) (yQ E.eQ hm)) (cN (cm (bZ (ae rfl) E.iQ) (ae rfl) (gw E.eQ hm)) rfl)) rfl),Run.is (cu (cN (oj (bV (ae rfl) (re f (u:= .loc m) (by kernel_rfl) rfl rfl) (jl E.eQ hm)) (cm (re f (u:= .loc m) (by kernel_rfl) rfl rfl) (ae rfl) (gw E.eQ hm))) rfl) rfl)⟩
theorem NL(D:Dat dW N H aV ms pr a_){x:Str}(af:cY x ms≠none)(cb:N≤1000):yc [.ins 461 aV, .str x] H=some (.loc (H.length+1),H++[.list ((dj (rowsOf (bO ms x) x)).map cv), .list ((dD (defOf x) (rowsOf (bO ms x) x)).map cv)]):=by
 obtain⟨dd,m,p,w,E⟩:=D.ex
 have hm:=mr x ms
 unfold bO
 cases au:cY x ms with
 |none=>exact absurd au af
 |some q=>
  obtain⟨l,r⟩:=q
  rw[au] at hm
  obtain⟨_,a,b,M⟩:=D.at au
  exact Run.is (cu (cN (oj (bV (ae rfl) (bZ (ae rfl) E.iQ) (jl E.eQ hm)) (dM (cm (bZ (ae rfl) E.iQ) (ae rfl) (gw E.eQ hm)) (jX M.ea.o (by kernel_rfl)) aJ (y_ M.ea (Nat.le_trans M.nn cb)))) rfl) rfl)
noncomputable def isBad(x:Str)(v:Val):Bool:=if x="sc"then decide (v= .i 7)else decide (v= .s "x")
theorem NO{x:Str}(af:ca x){v:Val}(aR:v∈vals x):oY [.str x,(defOf x).v,v.v] H=some (.bool (isBad x v),H):=by
 rcases af with rfl|rfl
 ·exact sp (P:=fun v=>oY [.str "sc",(defOf "sc").v,v.v] H=some (.bool (isBad "sc" v),H)) (by kernel_rfl) (by kernel_rfl) (by kernel_rfl) (by kernel_rfl) aR
 ·exact sp (P:=fun v=>oY [.str "ccc",(defOf "ccc").v,v.v] H=some (.bool (isBad "ccc" v),H)) (by kernel_rfl) (by kernel_rfl) (by kernel_rfl) (by kernel_rfl) aR
end
noncomputable abbrev g6:=Str×Int
noncomputable def d7(p:g6):V:= .tup [.str p.1, .int p.2]
noncomputable def fV(x:Str)(l:List eG):List g6:=(l.filter fun r=>isBad x r.2.2).map fun r=>(x,r.1)
section
variable{lo N:Nat}{H:ao}{aV:Nat}{ms:cG}{pr:List (Str×V)}{a_:List (List Str×V)}
theorem OR{x:Str}{rows:List eG}{i:Nat}{r:eG}(h:rows[i]?=some r):fV x (rows.take (i+1))=fV x (rows.take i)++(if isBad x r.2.2 then [(x,r.1)]else []):=by
 unfold fV;rw[hR h,List.filter_append,List.map_append,List.filter_cons]
 cases isBad x r.2.2<;>rfl
theorem v9(x:Str)(rows:List eG):(fV x rows).length≤rows.length:=by
 unfold fV;rw[List.length_map];exact List.length_filter_le ..
inductive LA(H:ao)(x:Str)(rows:List eG)(F:Nat)(q:List g6)(σ:aN)(i:Nat)(ba:aN)(H':ao):Prop
 |mk (a:∀j,j<4→ba j=σ j) (y:dZ F H H') (g:H'[F]?=some (.list ((q++fV x (rows.take i)).map d7)))
theorem OO{x:Str}(af:ca x){rows:List eG}(kC:∀r∈rows,r.2.2∈vals x){L F:Nat}{q:List g6}{σ:aN}{it:fH}{dR:ao}{R:b9}{K:Out→Prop}(hit:it σ dR=some (i2 L,H))(hz:rows.length≤1000)(bC:q.length≤100000)(Fl:L≠F)
 (bH:H[L]?=some (.list (rows.map cv))) (fz:H[F]?=some (.list (q.map d7))) (s1:σ 1=some (.loc F)) (s2:σ 2=some (.str x)) (s3:σ 3=some (defOf x).v)
 (k:∀ba H',(∀j,j<4→ba j=σ j)→dZ F H H'→H'[F]?=some (.list ((q++fV x rows).map d7))→Run (R ba H') K):
 Run (aq (dz it (gM [4,5,6]) (aq (b8 (fx (aO oY [(aa 2),(aa 3),(aa 6)])) (aq (c8 (b5 (g4 hG) (aa 1) [(cQ [(aa 2),(aa 4)])])) aI) aI) aI)) R σ dR) K:=by
 refine fB hit rows.length (Nat.le_trans hz (by decide)) (LA H x rows F q σ) ⟨fun _ _=>rfl,fun _ _ _ h=>h,by rw[List.take_zero];exact(List.append_nil q).symm▸fz⟩ (fun i b3 H1 hi ⟨a,y,g⟩=> ?_) (fun b3 H1 ⟨_,y,_⟩=>dJ (y _ _ Fl bH) (List.getElem?_eq_none (Nat.le_of_eq (List.length_map _)))) fun b3 H1 ⟨a,y,g⟩=>k b3 H1 a y (by rw[List.take_length] at g;exact g)
 have lB:rows[i]?=some rows[i]:=List.getElem?_eq_getElem hi
 have aR:=kC _ (List.getElem_mem hi)
 have fJ:=OR (x:=x) lB
 have aY:∀j,j<4→mF b3 [4,5,6] [.int rows[i].1, .int rows[i].2.1,rows[i].2.2.v] j=b3 j:=fun j bM=>(if_neg (Nat.ne_of_lt (Nat.lt_trans bM (by decide)))).trans ((if_neg (Nat.ne_of_lt (Nat.lt_trans bM (by decide)))).trans (if_neg (Nat.ne_of_lt bM)))
 have tt:fx (aO oY [(aa 2),(aa 3),(aa 6)]) (mF b3 [4,5,6] [.int rows[i].1, .int rows[i].2.1,rows[i].2.2.v]) H1=some (isBad x rows[i].2.2,H1):=iL (bf (ak (ae ((a 2 (by decide)).trans s2)) (ak (ae ((a 3 (by decide)).trans s3)) (ak (ae rfl) aJ))) (NO af aR))
 refine .mk (v:=cv rows[i]) (dJ (y _ _ Fl bH) (by rw[List.getElem?_map,lB];rfl)) rfl ?_
 cases az:isBad x rows[i].2.2 with
 |false=>
  rw[az] at tt fJ
  exact c6 tt (ez ⟨fun j bM=>(aY j bM).trans (a j bM),y,by rw[fJ];exact(List.append_nil (fV x (rows.take i))).symm▸g⟩)
 |true=>
  rw[az] at tt fJ
  refine fs tt (ge (dM (ae ((a 1 (by decide)).trans s1)) (kR g) (ak (et (ak (ae ((a 2 (by decide)).trans s2)) (ak (ae rfl) aJ)) (show 2≤1000 by decide)) aJ) (l4 g ?_)) (gZ (ez ⟨fun j bM=>(aY j bM).trans (a j bM),y.trans .set,?_⟩)))
  ·rw[List.length_map,List.length_append]
   exact Nat.le_trans (Nat.add_le_add bC (Nat.le_trans (v9 ..) (Nat.le_trans (List.length_take_le' ..) hz))) (by decide)
  ·rw[fQ g,fJ,←List.append_assoc,List.map_append (l₂:=if true=true then [(x,rows[i].1)]else [])];rfl
noncomputable def ia(g:Str→Option (List bh)):List g6:=fV "ccc" (dD (defOf "ccc") (rowsOf (g "ccc") "ccc"))++fV "sc" (dD (defOf "sc") (rowsOf (g "sc") "sc"))
noncomputable def rk(g:Str→Option (List bh))(ks:List Str):List g6:=ks.flatMap fun x=>fV x (dD (defOf x) (rowsOf (g x) x))
theorem OQ{g:Str→Option (List bh)}(h:∀z,bO ms z=g z):rk g (dl ms)=ia g:=by
 have cZ:∀x,(cY x ms).isSome=false→fV x (dD (defOf x) (rowsOf (g x) x))=[]:=fun x af=>by
  rw[←h]
  unfold bO
  cases au:cY x ms with
  |none=>show fV x (dD (defOf x) [(0,defOf x)])=[];unfold fV dD dj;simp
  |some q=>rw[au] at af;cases af
 unfold rk ia dl
 rw[List.flatMap_append]
 congr 1
 ·by_cases q:(cY ("ccc":Str) ms).isSome=true
  ·rw[if_pos q];simp
  ·rw[if_neg q,cZ _ (by simpa using q)];rfl
 ·by_cases q:(cY ("sc":Str) ms).isSome=true
  ·rw[if_pos q];simp
  ·rw[if_neg q,cZ _ (by simpa using q)];rfl
end
section
variable{lo N:Nat}{H:ao}{aV:Nat}{ms:cG}{pr:List (Str×V)}{a_:List (List Str×V)}
theorem U6(d:Val)(r:List bh):(dD d r).length≤2*r.length+1:=by
 unfold dD
 exact Nat.le_trans (List.length_filter_le ..) (by have:=nE r;omega)
theorem BA(D:Dat lo N H aV ms pr a_)(x:Str):(dD (defOf x) (rowsOf (bO ms x) x)).length≤N+1:=by
 unfold dD
 refine Nat.le_trans (List.length_filter_le ..) ?_
 rw[nE]
 unfold bO
 cases au:cY x ms with
 |none=>exact Nat.le_add_left 1 N
 |some q=>obtain⟨_,a,b,M⟩:=D.at (l:=q.1) (r:=q.2) au;exact Nat.le_succ_of_le M.nn
theorem Et(D:Dat lo N H aV ms pr a_):∀ks:List Str,(rk (bO ms) ks).length≤ks.length*(N+1)
 |[]=>Nat.zero_le _
 |x::t=>by
  unfold rk
  rw[List.flatMap_cons,List.length_append,List.length_cons,Nat.succ_mul,Nat.add_comm]
  exact Nat.add_le_add (Et D t) (Nat.le_trans (v9 ..) (BA D x))
inductive CE(H:ao)(aV:Nat)(ms:cG)(i:Nat)(σ:aN)(H':ao):Prop
 |mk (s0:σ 0=some (.ins 461 aV)) (s1:σ 1=some (.loc H.length)) (x:Ext H H') (dA:H'[H.length+1]?=some (.list ((dl ms).map .str))) (jM:H'[H.length]?=some (.list ((rk (bO ms) ((dl ms).take i)).map d7)))
theorem D_{G:Prop}(D:Dat lo N H aV ms pr a_)(cb:N≤400)(kC:∀x,ca x→∀r∈dD (defOf x) (rowsOf (bO ms x) x),r.2.2∈vals x)
 (k:∀H',qJ [.ins 461 aV] H=some (.loc H.length,H')→H'[H.length]?=some (.list ((ia (bO ms)).map d7))→Ext H H'→G):G:=by
 obtain⟨dd,m,p,w,E⟩:=D.ex
 have a6:=Ext.app (H:=H) [aM.list []]
 have g1:=bP (H:=H) (m:= .list [])
 have cr:(H++[aM.list []]).length=H.length+1:=List.length_append
 have nw:∀σ:aN,dList [] σ H=some (.loc H.length,H++[aM.list []]):=fun _=>d4 aJ (Nat.zero_le _)
 have mw:=B0 (a6 _ _ E.eQ) D.ju fun e he=>(D.i0 e he).1
 generalize H++[aM.list []]=H1 at*
 have qE:=a6.trans (.app [aM.list ((dl ms).map .str)])
 have g2:=bP (H:=H1) (m:= .list ((dl ms).map .str))
 have ov:=Ext.app [aM.list ((dl ms).map .str)] _ _ g1
 generalize H1++[aM.list ((dl ms).map .str)]=aG at*
 rw[cr] at g2 mw
 obtain⟨⟨_,H'⟩,e,rfl,ba,⟨_,_,x,_,jM⟩⟩:Run (qJ [.ins 461 aV] H) fun p=>p.1= .loc H.length∧∃σ,CE H aV ms (dl ms).length σ p.2:=by
  refine cu (cq (nw _) (fB (el (bf (ak (bZ (ae rfl) (eM (a6 _ _ E.go) (by kernel_rfl) rfl)) aJ) mw) (fo g2)) (dl ms).length (Nat.le_trans nH (by decide)) (CE H aV ms) ⟨rfl,rfl,qE,g2,ov⟩ ?_ (fun σ H' ⟨_,_,_,dA,_⟩=>dJ dA (List.getElem?_eq_none (Nat.le_of_eq (List.length_map _)))) fun σ H' I=>cN (ae (match I with|⟨_,s1,_,_,_⟩=>s1)) ⟨rfl,σ,I⟩)) rfl
  rintro i σ H3 hi ⟨s0,s1,x,dA,jM⟩
  have kF:(dl ms)[i]?=some (dl ms)[i]:=List.getElem?_eq_getElem hi
  obtain⟨af,q,au⟩:=oP (List.getElem_mem hi)
  generalize (dl ms)[i]=y at*
  have om:=NL (D.keep x.keep) (x:=y) (by rw[au];exact fun e=>nomatch e) (Nat.le_trans cb (by decide))
  have dK:=Ext.app (H:=H3) [aM.list ((dj (rowsOf (bO ms y) y)).map cv), .list ((dD (defOf y) (rowsOf (bO ms y) y)).map cv)]
  have jq:(H3++[aM.list ((dj (rowsOf (bO ms y) y)).map cv), .list ((dD (defOf y) (rowsOf (bO ms y) y)).map cv)])[H3.length+1]?=some (.list ((dD (defOf y) (rowsOf (bO ms y) y)).map cv)):=by
   rw[List.getElem?_append_right (Nat.le_add_right ..),Nat.add_sub_cancel_left];rfl
  generalize H3++[aM.list ((dj (rowsOf (bO ms y) y)).map cv), .list ((dD (defOf y) (rowsOf (bO ms y) y)).map cv)]=cW at*
  refine .mk (v:= .str y) (dJ dA (by rw[List.getElem?_map,kF];rfl)) rfl (cq (dM (bZ (ae s0) (eM (x _ _ E.go) (by kernel_rfl) rfl)) (uD (x _ _ E.gB)) (ak (ae rfl) aJ) (tu (x _ _ E.gB) (ti af))) (OO af (kC y af) (el (bf (ak (ae s0) (ak (ae rfl) aJ)) om) (fo jq)) (Nat.le_trans (BA D y) (Nat.le_trans (Nat.succ_le_succ cb) (by decide))) (Nat.le_trans (Et D _) (Nat.le_trans (Nat.mul_le_mul (Nat.le_trans (List.length_take_le' ..) nH) (Nat.succ_le_succ cb)) (by decide))) (Nat.ne_of_gt (Nat.lt_succ_of_lt (ew jM))) jq (dK _ _ jM) s1 rfl rfl fun gy fj a2 gg iT=>ez ⟨(a2 0 (by decide)).trans s0,(a2 1 (by decide)).trans s1,fun j m h=>gg _ _ (Nat.ne_of_lt (ew h)) (dK _ _ (x j m h)),gg _ _ (Nat.succ_ne_self _) (dK _ _ dA),?_⟩))
  rw[iT,hR kF];unfold rk;rw[List.flatMap_append,List.flatMap_cons,List.flatMap_nil,List.append_nil]
 rw[List.take_length,OQ fun _=>rfl] at jM
 exact k H' e jM x
end
section
variable{lo N:Nat}{H:ao}{aV:Nat}{ms:cG}{pr:List (Str×V)}{a_:List (List Str×V)}
theorem D4{x:Str}{c:V}{rows:List eG}{L eh:Nat}{ps:List (Str×V)}{σ:aN}(s1:σ 1=some (.loc eh))(ib:H[eh]?=some (.aS ps))(kD:cH x ps=some (.loc L))(bH:H[L]?=some (.list (rows.map cv)))
 (aU:∀r∈rows,∀H,vEq H r.2.2.v c=some (isBad x r.2.2)) (hz:rows.length≤1000):
 ef [] (cP (bG (aa 1) (aj (.str x)))) (cx 1) (bq .Eq (bG (aa 1) (aj (.int 2))) (aj c)) (cQ [(aj (.str x)),(bG (aa 1) (aj (.int 0)))]) σ H=some (.loc H.length,H++[.list ((fV x rows).map d7)]):=by
 unfold fV
 rw[List.map_map]
 exact oh (as:=rows) (F:=cv) (fun r=>isBad x r.2.2) (d7∘fun r=>(x,r.1)) (el (cm (ae s1) aF (gw ib kD)) (fo bH)) (fun i G e=>dJ (e _ _ bH) rfl) rfl (Nat.le_trans hz (by decide)) fun r aZ cJ G e t1 _=>⟨bV (cm (ae t1) aF (JA r _)) aF (aU r aZ _),fun _=>et (ak aF (ak (cm (ae t1) aF (Vb r _)) aJ)) (show 2≤1000 by decide)⟩
theorem WR{q:List g6}{F:Nat}{E:fH}{σ:aN}{dR:ao}(fm:E σ dR=some (i2 F,H))(fz:H[F]?=some (.list (q.map d7)))(hz:q.length≤100000):
 ef [] E (cx 1) eY (aO hI [(aa 1)]) σ dR=some (.loc H.length,H++[.list (q.map d7)]):=by
 have:=oh (caps:=[]) (j:=1) (Ti:=eY) (De:=aO hI [(aa 1)]) (as:=q) (F:=d7) (fun _=>true) d7 fm (fun i G e=>dJ (e _ _ fz) rfl) rfl (Nat.le_trans hz (by decide)) fun r aZ cJ G e t1 _=>⟨rfl,fun _=>bf (ak (ae t1) aJ) rfl⟩
 rw[zo] at this;exact this
end
noncomputable def l6(p:g6):PyData:= .tuple [.str p.1, .int p.2]
theorem zz(H:ao)(n:Nat)(p:g6):toD H (n+1) (d7 p)=some (l6 p):=bm (f:=PyData.tuple) (oE (ed.str n (Nat.zero_le _)) (oE (ed.int n (Nat.zero_le _)) rfl))
theorem Wd{x:Str}(h:ca x):PyData.strOk x=true:=by rcases h with rfl|rfl<;>decide+kernel
theorem zw{p:g6}(h:ca p.1):(l6 p).canLay0=true:=Bool.and_eq_true_iff.mpr ⟨Wd h,rfl⟩
theorem EC(p:g6):PyData.eqv (l6 p) (l6 p)=true:=Bool.and_eq_true_iff.mpr ⟨beq_self_eq_true p.1,Bool.and_eq_true_iff.mpr ⟨beq_self_eq_true p.2,rfl⟩⟩
theorem ED:∀{q:List g6},(∀p∈q,ca p.1)→PyData.canLayAll0 (q.map l6)=true
 |[],_=>rfl
 |p::t,h=>Bool.and_eq_true_iff.mpr ⟨zw (h p (.head _)),ED fun x af=>h x (.tail _ af)⟩
theorem EE:∀q:List g6,PyData.depthAll (q.map l6)≤1
 |[]=>Nat.zero_le _
 |p::t=>Nat.max_le.mpr ⟨Nat.le_refl _,EE t⟩
theorem EF:∀q:List g6,PyData.eqvAll (q.map l6) (q.map l6)=true
 |[]=>rfl
 |p::t=>Bool.and_eq_true_iff.mpr ⟨EC p,EF t⟩
theorem zy{H:ao}{F:Nat}{q:List g6}(h:H[F]?=some (.list (q.map d7))):toD H 8 (.loc F)=some (.list (q.map l6)):=bi (li h) (bm (mapM_map fun p _=>zz H 6 p))
theorem zx{q:List g6}(h:∀p∈q,ca p.1):SeqAt.shaped (.list (q.map l6))=true:=Bool.and_eq_true_iff.mpr ⟨ED h,decide_eq_true (Nat.le_trans (Nat.succ_le_succ (EE q)) (by decide))⟩
theorem O8{H:ao}{a b:Nat}{q:List g6}(aP:H[a]?=some (.list (q.map d7)))(az:H[b]?=some (.list (q.map d7)))(h:∀p∈q,ca p.1):vEq H (.loc a) (.loc b)=some true:=
 (py (zy aP) (zy az) (zx h) (zx h)).trans (congrArg some (EF q))
theorem O9{H:ao}{a b:Nat}{q:List g6}(aP:H[a]?=some (.list (q.map d7)))(az:H[b]?=some (.list []))(h:∀p∈q,ca p.1):vEq H (.loc a) (.loc b)=some (decide (q=[])):=by
 refine(py (zy aP) (qu az) (zx h) rfl).trans ?_
 cases q<;>rfl
theorem O7{H:ao}{p:g6}(h:ca p.1):vEq H (d7 p) (d7 p)=some true:=
 (py (zz H 7 p) (zz H 7 p) (Bool.and_eq_true_iff.mpr ⟨zw h,rfl⟩) (Bool.and_eq_true_iff.mpr ⟨zw h,rfl⟩)).trans (congrArg some (EC p))
section
variable{lo N:Nat}{H:ao}{aV:Nat}{ms:cG}{pr:List (Str×V)}{a_:List (List Str×V)}
theorem OP{g:Str→Option (List bh)}:∀p∈ia g,ca p.1:=by
 intro p aH
 unfold ia fV at aH
 rcases List.mem_append.mp aH with h|h<;>obtain⟨r,_,rfl⟩:=List.mem_map.mp h
 ·exact .inr rfl
 ·exact .inl rfl
section
variable{σ b3:aN}{H1 aG H3 cW fj:ao}{Da dY dc:a0}{j8 R:b9}{j9:cK}{bb:List a0}{b v r:V}{K:Out→Prop}
theorem U2(ag:Da σ H=some (b,H1))(ah:j8 (f_ [b]) H1=some (.next,b3,aG))(aE:j9 b3 aG=some (false,H3))(k:Run (R σ H3) K):Run (aq (vQ Da j8 j9 bb dY dc) R σ H) K:=oJ (bi ag (bi ah (bi aE rfl))) k
theorem U3(ag:Da σ H=some (b,H1))(ah:j8 (f_ [b]) H1=some (.next,b3,aG))(aE:j9 b3 aG=some (true,H3))(a7:eH bb b3 H3=some ([v],cW))(aR:kP v=true)(cj:gz false [dY,eP .Eq (aO hI [aj v]) dc] σ cW=some (r,fj))(k:K (.ret r,fun _=>none,fj)):Run (aq (vQ Da j8 j9 bb dY dc) R σ H) K:=
 nC ⟨_,bi ag (bi ah (bi aE (bi a7 ((if_pos aR).trans (bm cj))))),k⟩
end
theorem MH{r:eG}(h:r.2.2∈vals "ccc")(H:ao):vEq H r.2.2.v (.str "x")=some (isBad "ccc" r.2.2):=
 sp (P:=fun v=>vEq H v.v (.str "x")=some (isBad "ccc" v)) (by kernel_rfl) (by kernel_rfl) (by kernel_rfl) (by kernel_rfl) h
theorem MI{r:eG}(h:r.2.2∈vals "sc")(H:ao):vEq H r.2.2.v (.int 7)=some (isBad "sc" r.2.2):=
 sp (P:=fun v=>vEq H v.v (.int 7)=some (isBad "sc" v)) (by kernel_rfl) (by kernel_rfl) (by kernel_rfl) (by kernel_rfl) h
theorem NP{G:Prop}(D:Dat lo N H aV ms pr a_)(cb:N≤400)(kC:∀x,ca x→∀r∈dD (defOf x) (rowsOf (bO ms x) x),r.2.2∈vals x)(hz:∀x,(dD (defOf x) (rowsOf (bO ms x) x)).length≤500){eh mP yn:Nat}{ps:List (Str×V)}
 (ib:H[eh]?=some (.aS ps)) (Q_:cH "ccc" ps=some (.loc mP)) (kD:cH "sc" ps=some (.loc yn)) (wn:H[mP]?=some (.list ((dD (defOf "ccc") (rowsOf (bO ms "ccc") "ccc")).map cv))) (P7:H[yn]?=some (.list ((dD (defOf "sc") (rowsOf (bO ms "sc") "sc")).map cv)))
 (k:∀H',u_ [.ins 461 aV, .loc eh] H=some (.bool true,H')→Ext H H'→G):G:=by
 have ha:=D4 (σ:=f_ [.ins 461 aV, .loc eh]) (c:= .str "x") rfl ib Q_ wn (fun r aZ H=>MH (kC "ccc" (.inr rfl) r aZ) H) (Nat.le_trans (hz _) (by decide))
 have a6:=Ext.app (H:=H) [aM.list ((fV "ccc" (dD (defOf "ccc") (rowsOf (bO ms "ccc") "ccc"))).map d7)]
 have g1:=bP (H:=H) (m:= .list ((fV "ccc" (dD (defOf "ccc") (rowsOf (bO ms "ccc") "ccc"))).map d7))
 generalize H++[aM.list ((fV "ccc" (dD (defOf "ccc") (rowsOf (bO ms "ccc") "ccc"))).map d7)]=H1 at*
 have fa:=D4 (σ:=f_ [.ins 461 aV, .loc eh]) (c:= .int 7) rfl (a6 _ _ ib) kD (a6 _ _ P7) (fun r aZ H=>MI (kC "sc" (.inl rfl) r aZ) H) (Nat.le_trans (hz _) (by decide))
 have bj:=a6.trans (.app [aM.list ((fV "sc" (dD (defOf "sc") (rowsOf (bO ms "sc") "sc"))).map d7)])
 have ov:=Ext.app [aM.list ((fV "sc" (dD (defOf "sc") (rowsOf (bO ms "sc") "sc"))).map d7)] _ _ g1
 have g2:=bP (H:=H1) (m:= .list ((fV "sc" (dD (defOf "sc") (rowsOf (bO ms "sc") "sc"))).map d7))
 generalize H1++[aM.list ((fV "sc" (dD (defOf "sc") (rowsOf (bO ms "sc") "sc"))).map d7)]=aG at*
 have AH:=Nat.le_trans (v9 "ccc" _) (hz "ccc")
 have dI:=Nat.le_trans (v9 "sc" _) (hz "sc")
 have xH:=vF ov g2 (by rw[List.length_map,List.length_map];exact Nat.le_trans (Nat.add_le_add AH dI) (by decide))
 rw[←List.map_append] at xH
 have zZ:∀p∈ia (bO ms),ca p.1:=OP
 have FZ:(ia (bO ms)).length≤1000:=by unfold ia;rw[List.length_append];exact Nat.add_le_add AH dI
 have xH:ik .Add (.loc H.length) (.loc H1.length) aG=some (.loc aG.length,aG++[.list ((ia (bO ms)).map d7)]):=xH
 have cc:=bj.trans (.app [aM.list ((ia (bO ms)).map d7)])
 have g3:=bP (H:=aG) (m:= .list ((ia (bO ms)).map d7))
 clear g1 ov g2 AH dI
 generalize aG++[aM.list ((ia (bO ms)).map d7)]=H3 at*
 generalize aG.length=eS at*
 refine D_ (D.keep cc.keep) cb kC fun cW fY fy dK=> ?_
 have EI:=(dK.trans (.app [aM.list ((ia (bO ms)).map d7)])) _ _ g3
 have iT:=bP (H:=cW) (m:= .list ((ia (bO ms)).map d7))
 have gg:=cc.trans (dK.trans (.app [aM.list ((ia (bO ms)).map d7)]))
 have qt:=fun(σ:aN) (s0:σ 0=some (.ins 461 aV))=>WR (σ:=σ) (el (bf (ak (ae s0) aJ) fY) (fo fy)) fy (Nat.le_trans FZ (by decide))
 generalize cW++[aM.list ((ia (bO ms)).map d7)]=fj at*
 refine D_ (D.keep gg.keep) cb kC fun d0 oI we eV=> ?_
 have Pc:=eV _ _ EI
 have Fv:=Ext.app [aM.list []] _ _ Pc
 have tp:=O9 Fv (bP (H:=d0)) zZ
 have a3:=pE we (by rw[List.length_map];exact Nat.lt_of_le_of_lt FZ (by decide))
 have dB:=O8 iT EI zZ
 generalize ia (bO ms)=q at*
 have be:∀σ:aN,σ 0=some (.ins 461 aV)→bT 1 (aO qJ [(aa 0)]) σ fj=some (.next,upd σ 1 (.loc fj.length),d0):=fun σ s0=>bi (bf (ak (ae s0) aJ) oI) rfl
 have nl:∀{op σ},σ 2=some (.loc eS)→∀{b},hW op (.loc eS) (.loc d0.length) (d0++[aM.list []])=some b→eP op (aa 2) (dList []) σ d0=some (.bool b,d0++[aM.list []]):=fun s2 _ h=>l0 (ae s2) (d4 aJ (Nat.zero_le _)) h
 refine k (d0++[.list []]) (Run.is (cu (cq (cT ha fa xH) (c6 (bV (qt _ rfl) (ae rfl) (congrArg (Option.map _) dB)) ?_)) rfl)) ((gg.trans eV).trans (.app _))
 cases q with
 |nil=>exact U2 (ae rfl) (be _ rfl) (bV (bf (ak (ae rfl) aJ) a3) aF (iA (Int.lt_irrefl 0))) (cN (nl rfl tp) rfl)
 |cons p t=>
  have aH:ca p.1:=zZ p (.head _)
  rw[decide_eq_false (fun e=>nomatch e)] at tp
  have wN:∀{l:Nat} {H:ao},H[l]?=some (.list ((p::t).map d7))→f5 (.loc l) (.int 0) H=some (d7 p):=fun h=>j4 (i:=0) h rfl (by decide)
  have OT:=O7 (H:=d0++[.list []]) aH
  exact U3 (ae rfl) (be _ rfl) (bV (bf (ak (ae rfl) aJ) a3) aF (h' (Int.natCast_pos.mpr (Nat.succ_pos _)))) (ak (cm (ae rfl) aF (wN we)) aJ) rfl (tl (nl rfl (b:=true) (congrArg (Option.map _) tp)) (l0 (bf (ak aF aJ) (show hI [d7 p] (d0++[.list []])=some (d7 p,d0++[.list []])from rfl)) (cm (ae rfl) aF (wN Fv)) OT)) rfl
end
noncomputable def rF(c:Nat):Bool:=(Builtin.Str.occurrences (" _-\t":Str) ⟨#[c]⟩ 0 (" _-\t":Str).length 1).isEmpty
noncomputable def q1(c:Nat):Bool:= !(qj ⟨#[c]⟩ "A")&& !(qj "Z" ⟨#[c]⟩)
noncomputable def rO(c:Nat):Str:=if q1 c then⟨#[c+32]⟩else⟨#[c]⟩
noncomputable def lC(l:List Nat):List Str:=(l.filter rF).map rO
noncomputable def d1(x:Str):Str:=Txt.join "" (lC x.cps.toList)
noncomputable def eJ(x:Str):aM:= .list ((lC x.cps.toList).map .str)
theorem ML{c:Nat}(h:q1 c=true):c≤90:=by
 unfold q1 qj at h
 have e:("Z":Str).cps.toList=[90]:=by kernel_rfl
 rw[e,Bool.and_eq_true,Bool.not_eq_true',Bool.not_eq_true',decide_eq_false_iff_not,decide_eq_false_iff_not] at h
 exact Nat.le_of_not_lt fun q=>h.2 (List.Lex.rel q)
theorem SW(c:Nat):(rO c).length=1:=by unfold rO;cases q1 c<;>rfl
theorem SU(l:List Nat):((lC l).map (·.length)).sum=(lC l).length:=by
 unfold lC
 rw[List.map_map,List.length_map]
 induction l.filter rF with
 |nil=>rfl
 |cons c t aK=>rw[List.map_cons,List.sum_cons,aK,Function.comp_apply,SW,List.length_cons,Nat.add_comm]
theorem G3(l:List Nat):(lC l).length≤l.length:=by
 unfold lC;rw[List.length_map];exact List.length_filter_le ..
theorem KX:∀l:List Str,Cj (l.map .str)=some l
 |[]=>rfl
 |x::t=>congrArg (Option.map (x:: ·)) (KX t)
theorem OB{c:Nat}(h:c≤90)(H:ao):vY [.int ((c:Int)+32)] H=some (.str ⟨#[c+32]⟩,H):=bi rfl (bi rfl (if_pos ⟨Int.natCast_nonneg (c+32),Int.ofNat_le.mpr (Nat.le_trans (Nat.add_le_add_right h 32) (by decide))⟩))
theorem Em(c:Nat)(H:ao):oo [.str ⟨#[c]⟩] H=some (.int c,H):=rfl
theorem NY{c:Nat}{σ:aN}(h:σ 2=some (.str ⟨#[c]⟩))(H:ao):fb (lj .LtE .LtE (aj (.str "A")) (aa 2) (aj (.str "Z"))) (aO vY [(bI .Add (aO oo [(aa 2)]) (aj (.int 32)))]) (aa 2) σ H=some (.str (rO c),H):=by
 unfold rO q1
 cases ag:qj ⟨#[c]⟩ "A"with
 |true=>exact lp (Kq aF (ae h) (congrArg (fun b=>some !b) ag)) (ae h)
 |false=>
  cases ah:qj "Z" ⟨#[c]⟩with
  |true=>exact lp (gL aF (ae h) (congrArg (fun b=>some !b) ag) aF (congrArg (fun b=>some !b) ah)) (ae h)
  |false=>exact oj (gL aF (ae h) (congrArg (fun b=>some !b) ag) aF (congrArg (fun b=>some !b) ah)) (bf (ak (cT (bf (ak (ae h) aJ) (Em c H)) aF (sX rfl)) aJ) (OB (ML (by unfold q1;rw[ag,ah];rfl)) H))
theorem rb{H:ao}{x:Str}(hz:x.length≤1000):k4 [.str x] H=some (.str (d1 x),H++[eJ x]):=by
 have Ag:x.cps.toList.length≤1000:=hz
 have nx:∀{i o} (H:ao),x.cps.toList[i]?=o→xh x i H=some (o.map fun c=> .str ⟨#[c]⟩):=fun H h=>by
  rw[Array.getElem?_toList] at h;exact congrArg (fun o:Option Nat=>some (o.map fun c=>V.str ⟨#[c]⟩)) h
 have eo:=G3 x.cps.toList
 refine Run.is (cu (cq (d4 aJ (Nat.zero_le _)) (fB (el (ae rfl) rfl) x.cps.toList.length (Nat.le_trans Ag (by decide)) (fun i σ H'=>σ 1=some (.loc H.length)∧H'=H++[.list ((lC (x.cps.toList.take i)).map .str)]) ⟨rfl,rfl⟩ ?_ ?_ ?_)) rfl)
 ·rintro i σ _ hi ⟨s1,rfl⟩
  have aU:x.cps.toList[i]?=some x.cps.toList[i]:=List.getElem?_eq_getElem hi
  generalize x.cps.toList[i]=c at*
  have fJ:lC (x.cps.toList.take (i+1))=lC (x.cps.toList.take i)++(if rF c then [rO c]else []):=by
   unfold lC;rw[hR aU,List.filter_append,List.map_append]
   cases aB:rF c with
   |true=>rw[List.filter_cons_of_pos aB];rfl
   |false=>rw[List.filter_cons_of_neg (by rw[aB];decide)];rfl
  refine .mk (v:= .str ⟨#[c]⟩) (nx _ aU) rfl ?_
  have bg:∀H,bq .NotIn (aa 2) (aj (.str " _-\t")) (upd σ 2 (.str ⟨#[c]⟩)) H=some (rF c,H):=fun H=>bV (ae rfl) aF (congrArg some (Bool.not_not _))
  cases aB:rF c with
  |false=>rw[aB] at bg fJ;exact c6 (bg _) (ez ⟨s1,by rw[fJ];exact congrArg (fun z=>H++[aM.list (List.map V.str z)]) (List.append_nil _).symm⟩)
  |true=>
   rw[aB] at bg fJ
   refine fs (bg _) (ge (dM (ae s1) (kR bP) (ak (NY rfl _) aJ) (l4 bP ?_)) (gZ (ez ⟨s1,?_⟩)))
   ·rw[List.length_map];exact Nat.le_trans (G3 _) (Nat.le_trans (List.length_take_le' ..) (Nat.le_trans Ag (by decide)))
   ·rw[fJ,k_,List.map_append];rfl
 ·exact fun σ H' _=>nx _ (List.getElem?_eq_none (Nat.le_refl _))
 ·rintro σ _ ⟨s1,rfl⟩
  rw[List.take_length]
  refine cN (dM aF rfl (ak (ae s1) aJ) ?_) rfl
  refine bi rfl (bi rfl (bi (bm (li bP)) (bi (KX _) ((if_pos ?_).trans rfl))))
  rw[SU,show("":Str).length=0 from rfl,Nat.mul_zero]
  exact Nat.le_trans eo (Nat.le_trans Ag (by decide))
noncomputable def t4(l:Str):Bool:=hx l none (some 2) none=="is"
noncomputable def xy(l:Str):Str:=hx l (some 2) none none
noncomputable def ky(ps:List (Str×V))(x:Str):V:=match cH (d1 x) ps with
 |some v=>v
 |none=>if t4 (d1 x)then(cH (xy (d1 x)) ps).getD .none else .none
structure jf(x:Str):Prop where
 z:x.length≤1000
 ag:(hx (d1 x) none (some 2) none).length≤1000
 ah:(hx (d1 x) (some 2) none none).length≤1000
section
variable{H:ao}{x y:Str}
theorem xX{lo hi:Option Int}(h:(hx x lo hi none).length≤1000):sm (.str x) lo hi none H=some (.str (hx x lo hi none),H):=by
 show(if _ then _ else if(hx x lo hi none).length≤1000 then some (V.str (hx x lo hi none),H)else none)=_
 rw[if_neg (by decide),if_pos h]
variable{σ:aN}{i:Nat}{T:cK}
theorem JN(f:jf x)(h:σ i=some (.str (d1 x))):bq .Eq (eX (aa i) none (some (aj (.int 2))) none) (aj (.str "is")) σ H=some (t4 (d1 x),H):=bV (l2 (ae h) gR (l1 aF) gR (xX f.ag)) aF rfl
theorem xx(f:jf x)(h:σ i=some (.str (d1 x))):eX (aa i) (some (aj (.int 2))) none none σ H=some (.str (xy (d1 x)),H):=l2 (ae h) (l1 aF) gR gR (xX f.ah)
theorem y9{p:Nat}{ps:List (Str×V)}(aH:H[p]?=some (.aS ps))(f:jf x):sC [.loc p, .str x] H=some (ky ps x,H++[eJ x]):=by
 have e:=rb (H:=H) f.z
 have ni:=Ext.app [eJ x] _ _ aH
 generalize H++[eJ x]=H1 at*
 unfold ky
 refine Run.is (cu (cq (bf (ak (ae rfl) aJ) e) ?_) rfl)
 cases au:cH (d1 x) ps with
 |some v=>exact fs (bV (ae rfl) (ae rfl) (jl ni au)) (cN (cm (ae rfl) (ae rfl) (gw ni au)) rfl)
 |none=>
  refine c6 (bV (ae rfl) (ae rfl) (jl ni au)) ?_
  have kH:=JN (H:=H1) (σ:=upd (f_ [.loc p, .str x]) 2 (.str (d1 x))) (i:=2) f rfl
  cases hi:t4 (d1 x)with
  |false=>rw[hi] at kH;exact c6 (fE kH) (cN aF rfl)
  |true=>
   rw[hi] at kH
   cases aY:cH (xy (d1 x)) ps with
   |none=>exact c6 (g5 kH (fE (bV (xx f rfl) (ae rfl) (jl ni aY)))) (cN aF rfl)
   |some v=>exact fs (g5 kH (g5 (bV (xx f rfl) (ae rfl) (jl ni aY)) sh)) (cN (cm (ae rfl) (xx f rfl) (gw ni aY)) rfl)
end
noncomputable def l':List (Str×V):=(ma oD).1.getD []
noncomputable def p6:List aM:=(ma oD).2
theorem R_:(ma oD).1.isSome=true:=by decide+kernel
theorem R9:ma oD=(some l',p6):=by
 have h:=R_
 unfold l' p6
 generalize ma oD=p at*
 obtain⟨_|P,g⟩:=p
 ·cases h
 ·rfl
theorem NW(H:ao):yb [] H=some (.loc H.length,H++[.aS l']++p6):=by
 have e:∀σ,tn oD σ H=some (.loc H.length,H++[.aS l']++p6):=fun σ=>by
  unfold tn vO;rw[R9];rfl
 exact Run.is (cu (cN (e _) rfl) rfl)
section
variable{lo N:Nat}{H:ao}{aV:Nat}{ms:cG}{pr:List (Str×V)}{a_:List (List Str×V)}
theorem Jb{G:Prop}(D:Dat lo N H aV ms pr a_){x y:Str}(f:jf x)(h:ky pr x= .str y)(k:∀H',jd [.ins 461 aV, .str x] H=some (.str y,H')→Ext H H'→G):G:=by
 obtain⟨dd,m,p,w,E⟩:=D.ex
 have e:=y9 E.hj f
 rw[h] at e
 exact k _ (Run.is (cu (cq (bf (ak (bZ (ae rfl) E.vt) (ak (ae rfl) aJ)) e) (c6 (bV (ae rfl) aF rfl) (fs (bV (ae rfl) aF rfl) (cN (ae rfl) rfl)))) rfl)) (.app _)
theorem Jc{G:Prop}(D:Dat lo N H aV ms pr a_){x:Str}(f:jf x)(h:ky pr x= .none)(aB:ky l' x= .none)(hd:cH x jo=none)(af:¬ca x)(k:∀H',jd [.ins 461 aV, .str x] H=some (.none,H')→Ext H H'→G):G:=by
 obtain⟨dd,m,p,w,E⟩:=D.ex
 have e:=y9 E.hj f
 rw[h] at e
 have a6:=Ext.app (H:=H) [eJ x]
 generalize H++[eJ x]=H1 at*
 have bW:=y9 (Ext.app p6 _ _ (bP (H:=H1) (m:= .aS l'))) f
 rw[aB] at bW
 have ND:=NW H1
 have bj:=a6.trans (((Ext.app [aM.aS l']).trans (.app p6)).trans (.app [eJ x]))
 generalize H1++[aM.aS l']++p6=aG at*
 generalize aG++[eJ x]=H3 at*
 have au:cH x (e9 ms)=none:=by
  have:=mr x ms
  cases au:cY x ms with
  |none=>rw[au] at this;exact this
  |some q=>exact absurd (D.at (l:=q.1) (r:=q.2) au).1 af
 have sU:=eM (C:=461) (n:="defaults") (u:= .loc dd) (bj _ _ E.go) (by kernel_rfl) rfl
 have iQ:=eM (C:=461) (n:="maps") (u:= .loc m) (bj _ _ E.go) (by kernel_rfl) rfl
 exact k H3 (Run.is (cu (cq (bf (ak (bZ (ae rfl) E.vt) (ak (ae rfl) aJ)) e) (fs (bV (ae rfl) aF rfl) (cq (bf (ak (bf aJ ND) (ak (ae rfl) aJ)) bW) (gZ (c6 (bV (ae rfl) aF rfl) (cN (lp (mA (bV (ae rfl) (bZ (ae rfl) sU) (jl (bj _ _ E.gB) hd)) (mA (bV (ae rfl) (bZ (ae rfl) iQ) (jl (bj _ _ E.eQ) au)) xQ)) aF) rfl)))))) rfl)) bj
end
noncomputable def r'(l:Str):Str:=if t4 l then xy l else l
noncomputable def mG(a_:List (List Str×V))(x y:Str):V:=match gk [x,d1 y] a_ with
 |some v=>v
 |none=>(gk [x,r' (d1 y)] a_).getD .none
section
variable{lo N:Nat}{H:ao}{aV:Nat}{ms:cG}{pr:List (Str×V)}{a_:List (List Str×V)}
theorem KU{l:Nat}{x z:Str}{o:Option V}(h:H[l]?=some (.gd a_))(e:gk [x,z] a_=o):nJ (.loc l) (.tup [.str x, .str z]) H=some o:=bi rfl (bi rfl ((congrArg (uc _) h).trans (congrArg some e)))
inductive Mp(H1:ao)(aV:Nat)(a_:List (List Str×V))(x y:Str)(i:Nat)(σ:aN)(H':ao):Prop
 |mk (e:H'=H1) (s0:σ 0=some (.ins 461 aV)) (s1:σ 1=some (.str x)) (cZ:0<i→gk [x,d1 y] a_=none) (c':1<i→gk [x,r' (d1 y)] a_=none)
theorem pz(D:Dat lo N H aV ms pr a_){x y:Str}(f:jf y)(af:(x==("gc":Str))=false):jD [.ins 461 aV, .str x, .str y] H=some (mG a_ x y,H++[eJ y]):=by
 obtain⟨dd,m,p,w,E⟩:=D.ex
 have e:=rb (H:=H) f.z
 have a6:=Ext.app (H:=H) [eJ y]
 generalize H++[eJ y]=H1 at*
 have hw:gf 461 "words" (.ins 461 aV) H1=some (.loc w):=eM (a6 _ _ E.go) (by kernel_rfl) rfl
 have gm:=a6 _ _ E.gm
 have lk:∀{σ:aN} {z o},σ 0=some (.ins 461 aV)→σ 1=some (.str x)→σ 4=some (.str z)→gk [x,z] a_=o→td false (cQ [(aa 1),(aa 4)]) (bp 461 "words" (aa 0)) σ H1=some (o.isSome,H1):=fun s0 s1 s4 e=>(B6 (et (ak (ae s1) (ak (ae s4) aJ)) (show 2≤1000 by decide)) (bZ (ae s0) hw) (KU gm e)).trans (by cases‹Option V›<;>rfl)
 have go:∀{σ:aN} {z v},σ 0=some (.ins 461 aV)→σ 1=some (.str x)→σ 4=some (.str z)→gk [x,z] a_=some v→tg (bp 461 "words" (aa 0)) (cQ [(aa 1),(aa 4)]) σ H1=some (v,H1):=fun s0 s1 s4 e=>y7 (bZ (ae s0) hw) (et (ak (ae s1) (ak (ae s4) aJ)) (show 2≤1000 by decide)) (KU gm e)
 have sn:∀{σ:aN},σ 3=some (.str (d1 y))→fb (bq .Eq (eX (aa 3) none (some (aj (.int 2))) none) (aj (.str "is"))) (eX (aa 3) (some (aj (.int 2))) none none) (aa 3) σ H1=some (.str (r' (d1 y)),H1):=fun s=>by
  have kH:=JN (H:=H1) f s
  unfold r'
  cases hi:t4 (d1 y)with
  |true=>rw[hi] at kH;exact oj kH (xx f s)
  |false=>rw[hi] at kH;exact lp kH (ae s)
 unfold mG
 refine Run.is (cu (cq (bf (ak (ae rfl) aJ) e) (fB (el (et (ak (ae rfl) (ak (sn rfl) aJ)) (show 2≤1000 by decide)) rfl) 2 (by decide) (Mp H1 aV a_ x y) ⟨rfl,rfl,rfl,fun h=>absurd h (Nat.lt_irrefl 0),fun h=>absurd h (Nat.not_lt_zero 1)⟩ ?_ (fun σ H' _=>rfl) ?_)) rfl)
 ·rintro i σ _ hi ⟨rfl,s0,s1,cZ,c'⟩
  obtain _|_|i:=i
  ·refine .mk (v:= .str (d1 y)) rfl rfl ?_
   cases b6:gk [x,d1 y] a_ with
   |none=>exact c6 (lk (σ:=upd σ 4 _) s0 s1 rfl b6) (ez ⟨rfl,s0,s1,fun _=>b6,fun h=>absurd h (Nat.lt_irrefl 1)⟩)
   |some v=>exact fs (lk (σ:=upd σ 4 _) s0 s1 rfl b6) (cN (go (σ:=upd σ 4 _) s0 s1 rfl b6) rfl)
  ·rw[cZ (Nat.zero_lt_succ 0)]
   refine .mk (v:= .str (r' (d1 y))) rfl rfl ?_
   cases b6:gk [x,r' (d1 y)] a_ with
   |none=>exact c6 (lk (σ:=upd σ 4 _) s0 s1 rfl b6) (ez ⟨rfl,s0,s1,fun _=>cZ (Nat.zero_lt_succ 0),fun _=>b6⟩)
   |some v=>exact fs (lk (σ:=upd σ 4 _) s0 s1 rfl b6) (cN (go (σ:=upd σ 4 _) s0 s1 rfl b6) rfl)
  ·exact absurd hi (Nat.not_lt.mpr (Nat.le_add_left 2 i))
 ·rintro σ _ ⟨rfl,s0,s1,cZ,c'⟩
  rw[cZ (by decide),c' (by decide)]
  exact cN (lp (bV (ae s1) aF (congrArg some af)) aF) rfl
end
noncomputable def ir(pr:List (Str×V)):Prop:=(∀e∈pr,∃y,e.2= .str y)∧cH "sc" pr=none
theorem Jk{P:V→Prop}{x:Str}{v:V}(aR:P v):∀{pr:List (Str×V)},(∀e∈pr,P e.2)→∀e∈b0 x v pr,P e.2
 |[],_,e,he=>(List.mem_singleton.mp he)▸aR
 |(z,u)::t,h,e,he=>by
  unfold b0 at he
  split at he
  ·exact(List.mem_cons.mp he).elim (fun q=>q▸aR) fun q=>h e (.tail _ q)
  ·exact(List.mem_cons.mp he).elim (fun q=>q▸h _ (.head _)) fun q=>Jk aR (fun e he=>h e (.tail _ he)) e q
theorem ir.put{pr:List (Str×V)}(h:ir pr){x y:Str}(af:x≠"sc"):ir (b0 x (.str y) pr):=
 ⟨Jk (P:=fun v=>∃y,v= .str y) ⟨_,rfl⟩ h.1,by rw[qi,if_neg af,h.2]⟩
section
variable{lo N:Nat}{H H':ao}{aV:Nat}{ms:cG}{pr:List (Str×V)}{a_:List (List Str×V)}{dd m p w:Nat}
theorem ir.ne(h:ir pr){a:Str}{b:V}{t:List (Str×V)}(az:∀y,b≠ .str y):aM.aS pr≠ .aS ((a,b)::t):=fun e=>by
 obtain⟨y,aQ⟩:=h.1 (a,b) (by rw[aM.aS.inj e];exact .head _)
 exact az y aQ
theorem ir.ne2(h:ir pr){a c:Str}{b d:V}{t:List (Str×V)}(az:∀y,d≠ .str y):aM.aS pr≠ .aS ((a,b)::(c,d)::t):=fun e=>by
 obtain⟨y,aQ⟩:=h.1 (c,d) (by rw[aM.aS.inj e];exact .tail _ (.head _))
 exact az y aQ
theorem gO.uG(E:gO lo H aV ms pr a_ dd m p w)(ok:ir pr){uz:List (Str×V)}(x:dZ p H H')(g:H'[p]?=some (.aS uz)):gO lo H' aV ms uz a_ dd m p w:=
 ⟨x _ _ (Ne.symm (d5 E.hj E.go (ok.ne fun _ e=>nomatch e))) E.go,x _ _ (Ne.symm (d5 E.hj E.gB fun e=>by have h:=ok.2;rw[aM.aS.inj e,ti (.inl rfl)] at h;cases h)) E.gB,x _ _ E.mp E.eQ,g,x _ _ (d5 E.gm E.hj fun e=>nomatch e) E.gm,E.mp,E.jJ,E.bd,E.bm,E.q2,E.q4⟩
theorem kh.uG{x:Str}{l a b:Nat}{r:List bh}(M:kh lo N H x l r a b)(ok:ir pr)(g:H[p]?=some (.aS pr))(e:dZ p H H'):kh lo N H' x l r a b:=
 ⟨⟨e _ _ (Ne.symm (d5 g M.ea.o (ok.ne2 fun _ e=>nomatch e))) M.ea.o,e _ _ (d5 M.ea.s g fun e=>nomatch e) M.ea.s,e _ _ (d5 M.ea.v g fun e=>nomatch e) M.ea.v⟩,M.iz,M.nn,M.jI,M.m1,M.hE⟩
theorem gO.uH(E:gO lo H aV ms pr a_ dd m p w){uW:List (List Str×V)}(x:dZ w H H')(g:H'[w]?=some (.gd uW)):gO lo H' aV ms pr uW dd m p w:=
 ⟨x _ _ (d5 E.go E.gm fun e=>nomatch e) E.go,x _ _ (d5 E.gB E.gm fun e=>nomatch e) E.gB,x _ _ (d5 E.eQ E.gm fun e=>nomatch e) E.eQ,x _ _ (d5 E.hj E.gm fun e=>nomatch e) E.hj,g,E.mp,E.jJ,E.bd,E.bm,E.q2,E.q4⟩
theorem kh.uH{x:Str}{l a b:Nat}{r:List bh}(M:kh lo N H x l r a b)(g:H[w]?=some (.gd a_))(e:dZ w H H'):kh lo N H' x l r a b:=
 ⟨⟨e _ _ (d5 M.ea.o g fun e=>nomatch e) M.ea.o,e _ _ (d5 M.ea.s g fun e=>nomatch e) M.ea.s,e _ _ (d5 M.ea.v g fun e=>nomatch e) M.ea.v⟩,M.iz,M.nn,M.jI,M.m1,M.hE⟩
end
structure fw(lo N:Nat)(H:ao)(aV:Nat)(ms:cG)(pr:List (Str×V))(a_:List (List Str×V))(dd m p w:Nat):Prop where
 E:gO lo H aV ms pr a_ dd m p w
 i0:∀e∈ms,ca e.1∧∃a b,kh lo N H e.1 e.2.1 e.2.2 a b
 bk:(ms.map (·.2.1)).Nodup
 ju:(ms.map (·.1)).Nodup
section
variable{lo N:Nat}{H H':ao}{aV:Nat}{ms:cG}{pr uz:List (Str×V)}{a_ uW:List (List Str×V)}{dd m p w:Nat}
theorem fw.dat(D:fw lo N H aV ms pr a_ dd m p w):Dat lo N H aV ms pr a_:=⟨⟨dd,m,p,w,D.E⟩,D.i0,D.bk,D.ju⟩
theorem Dat.open(D:Dat lo N H aV ms pr a_):∃dd m p w,fw lo N H aV ms pr a_ dd m p w:=match D.ex with|⟨dd,m,p,w,E⟩=>⟨dd,m,p,w,E,D.i0,D.bk,D.ju⟩
theorem fw.keep(D:fw lo N H aV ms pr a_ dd m p w)(k:kg lo H.length H H'):fw lo N H' aV ms pr a_ dd m p w:=
 ⟨D.E.keep k,fun e he=>match D.i0 e he with|⟨hw,a,b,M⟩=>⟨hw,a,b,M.keep k⟩,D.bk,D.ju⟩
theorem fw.uG(D:fw lo N H aV ms pr a_ dd m p w)(ok:ir pr)(x:dZ p H H')(g:H'[p]?=some (.aS uz)):fw lo N H' aV ms uz a_ dd m p w:=
 ⟨D.E.uG ok x g,fun e he=>match D.i0 e he with|⟨hw,a,b,M⟩=>⟨hw,a,b,M.uG ok D.E.hj x⟩,D.bk,D.ju⟩
theorem fw.uH(D:fw lo N H aV ms pr a_ dd m p w)(x:dZ w H H')(g:H'[w]?=some (.gd uW)):fw lo N H' aV ms pr uW dd m p w:=
 ⟨D.E.uH x g,fun e he=>match D.i0 e he with|⟨hw,a,b,M⟩=>⟨hw,a,b,M.uH D.E.gm x⟩,D.bk,D.ju⟩
end
noncomputable def lI(y:Str)(ws:List Str)(pr:List (Str×V)):List (Str×V):=ws.foldl (fun p x=>b0 (d1 x) (.str y) p) pr
noncomputable def ny(n:Str)(y:Str)(ws:List Str)(a_:List (List Str×V)):List (List Str×V):=ws.foldl (fun p x=>b0 [n,d1 x] (.str y) p) a_
theorem Bw{y:Str}:∀{ws:List Str} {pr:List (Str×V)},ir pr→(∀x∈ws,d1 x≠"sc")→ir (lI y ws pr)
 |[],_,h,_=>h
 |x::t,pr,h,hw=>Bw (ws:=t) (h.put (hw x (.head _))) fun z hz=>hw z (.tail _ hz)
theorem wb{α β:Type}{f:List β→α→List β}(hf:∀p x,(f p x).length≤p.length+1):∀{ws:List α} {p:List β},(ws.foldl f p).length≤p.length+ws.length
 |[],_=>Nat.le_refl _
 |x::t,p=>Nat.le_trans (wb hf (ws:=t)) (Nat.le_trans (Nat.add_le_add_right (hf p x) _) (Nat.le_of_eq (Nat.succ_add_eq_add_succ _ _)))
section
variable{lo N:Nat}{H:ao}{aV:Nat}{ms:cG}{pr:List (Str×V)}{a_:List (List Str×V)}{dd m p w:Nat}
theorem W_{l:Nat}{x z:Str}{v:V}(h:H[l]?=some (.gd a_))(hz:a_.length≤1000):nL (.loc l) (.tup [.str x, .str z]) v H=some (H.set l (.gd (b0 [x,z] v a_))):=bi rfl ((congrArg (uN l _ v H) h).trans (if_pos hz))
inductive CL(lo N:Nat)(H:ao)(aV:Nat)(ms:cG)(pr:List (Str×V))(a_:List (List Str×V))(dd m p w:Nat)(y:Str)(ws:List Str)(i:Nat)(σ:aN)(H':ao):Prop
 |mk (s0:σ 0=some (.ins 461 aV)) (s1:σ 1=some (.str y)) (D:fw lo N H' aV ms (lI y (ws.take i) pr) a_ dd m p w) (x:dZ p H H') (l:H.length≤H'.length)
theorem N9{G:Prop}(D:fw lo N H aV ms pr a_ dd m p w)(ok:ir pr){L:Nat}{ws:List Str}{y:Str}(bH:H[L]?=some (.list (ws.map .str)))(hw:∀x∈ws,x.length≤1000∧d1 x≠"sc")(hz:pr.length+ws.length≤900)
 (k:∀H',nV [.ins 461 aV, .str y, .loc L] H=some (.none,H')→fw lo N H' aV ms (lI y ws pr) a_ dd m p w→dZ p H H'→H.length≤H'.length→G):G:=by
 have tF:=d5 bH D.E.hj fun e=>nomatch e
 obtain⟨⟨_,H'⟩,e,rfl,ba,⟨_,_,jB,x,l⟩⟩:Run (nV [.ins 461 aV, .str y, .loc L] H) fun i3=>i3.1= .none∧∃σ,CL lo N H aV ms pr a_ dd m p w y ws ws.length σ i3.2:=by
  refine cu (fB (el (ae rfl) (fo bH)) ws.length (Nat.le_trans (Nat.le_add_left _ _) (Nat.le_trans hz (by decide))) (CL lo N H aV ms pr a_ dd m p w y ws) ⟨rfl,rfl,D,fun _ _ _ h=>h,Nat.le_refl _⟩ ?_ (fun σ H' ⟨_,_,_,x,_⟩=>dJ (x _ _ tF bH) (List.getElem?_eq_none (Nat.le_of_eq (List.length_map _)))) fun σ H' I=>⟨_,rfl,rfl,σ,I⟩) rfl
  rintro i σ H1 hi ⟨s0,s1,dY,a6,cr⟩
  have af:ws[i]?=some ws[i]:=List.getElem?_eq_getElem hi
  have Ac:=hw _ (List.getElem_mem hi)
  generalize ws[i]=z at*
  have e:=rb (H:=H1) Ac.1
  have bj:=Ext.app (H:=H1) [eJ z]
  have dc:=dY.keep bj.keep
  have dH:=bj.len
  generalize H1++[eJ z]=aG at*
  have on:lI y (ws.take (i+1)) pr=b0 (d1 z) (.str y) (lI y (ws.take i) pr):=by
   unfold lI;rw[hR af,List.foldl_append];rfl
  have Uf:ir (lI y (ws.take i) pr):=Bw ok fun z hz=>(hw z (List.mem_of_mem_take hz)).2
  have z7:(lI y (ws.take i) pr).length≤1000:=Nat.le_trans (wb fun p x=>l7 ..) (Nat.le_trans (Nat.add_le_add_left (List.length_take_le' ..) _) (Nat.le_trans hz (by decide)))
  exact .mk (v:= .str z) (dJ (a6 _ _ tF bH) (by rw[List.getElem?_map,af];rfl)) rfl (jW (ae s1) (bZ (ae s0) dY.E.vt) (bf (ak (ae rfl) aJ) e) (qC dc.E.hj z7) (ez ⟨s0,s1,on▸dc.uG Uf .set (fQ dc.E.hj),(a6.trans bj.oR).trans .set,Nat.le_trans cr (oL dH)⟩))
 rw[List.take_length] at jB
 exact k H' e jB x l
inductive CN(lo N:Nat)(H:ao)(aV:Nat)(ms:cG)(pr:List (Str×V))(a_:List (List Str×V))(dd m p w:Nat)(n y:Str)(ws:List Str)(i:Nat)(σ:aN)(H':ao):Prop
 |mk (s0:σ 0=some (.ins 461 aV)) (s1:σ 1=some (.str n)) (s2:σ 2=some (.str y)) (D:fw lo N H' aV ms pr (ny n y (ws.take i) a_) dd m p w) (x:dZ w H H') (l:H.length≤H'.length)
theorem N_{G:Prop}(D:fw lo N H aV ms pr a_ dd m p w){L:Nat}{ws:List Str}{n y:Str}(bH:H[L]?=some (.list (ws.map .str)))(hw:∀x∈ws,x.length≤1000)(hz:a_.length+ws.length≤900)
 (k:∀H',nW [.ins 461 aV, .str n, .str y, .loc L] H=some (.none,H')→fw lo N H' aV ms pr (ny n y ws a_) dd m p w→dZ w H H'→H.length≤H'.length→G):G:=by
 have tF:=d5 bH D.E.gm fun e=>nomatch e
 obtain⟨⟨_,H'⟩,e,rfl,ba,⟨_,_,_,jB,x,l⟩⟩:Run (nW [.ins 461 aV, .str n, .str y, .loc L] H) fun i3=>i3.1= .none∧∃σ,CN lo N H aV ms pr a_ dd m p w n y ws ws.length σ i3.2:=by
  refine cu (fB (el (ae rfl) (fo bH)) ws.length (Nat.le_trans (Nat.le_add_left _ _) (Nat.le_trans hz (by decide))) (CN lo N H aV ms pr a_ dd m p w n y ws) ⟨rfl,rfl,rfl,D,fun _ _ _ h=>h,Nat.le_refl _⟩ ?_ (fun σ H' ⟨_,_,_,_,x,_⟩=>dJ (x _ _ tF bH) (List.getElem?_eq_none (Nat.le_of_eq (List.length_map _)))) fun σ H' I=>⟨_,rfl,rfl,σ,I⟩) rfl
  rintro i σ H1 hi ⟨s0,s1,s2,dY,a6,cr⟩
  have af:ws[i]?=some ws[i]:=List.getElem?_eq_getElem hi
  have Ac:=hw _ (List.getElem_mem hi)
  generalize ws[i]=z at*
  have e:=rb (H:=H1) Ac
  have bj:=Ext.app (H:=H1) [eJ z]
  have dc:=dY.keep bj.keep
  have dH:=bj.len
  generalize H1++[eJ z]=aG at*
  have on:ny n y (ws.take (i+1)) a_=b0 [n,d1 z] (.str y) (ny n y (ws.take i) a_):=by
   unfold ny;rw[hR af,List.foldl_append];rfl
  have z7:(ny n y (ws.take i) a_).length≤1000:=Nat.le_trans (wb fun p x=>l7 ..) (Nat.le_trans (Nat.add_le_add_left (List.length_take_le' ..) _) (Nat.le_trans hz (by decide)))
  exact .mk (v:= .str z) (dJ (a6 _ _ tF bH) (by rw[List.getElem?_map,af];rfl)) rfl (jW (ae s2) (bZ (ae s0) dY.E.Dh) (et (ak (ae s1) (ak (bf (ak (ae rfl) aJ) e) aJ)) (show 2≤1000 by decide)) (W_ dc.E.gm z7) (ez ⟨s0,s1,s2,on▸dc.uH .set (fQ dc.E.gm),(a6.trans bj.oR).trans .set,Nat.le_trans cr (oL dH)⟩))
 rw[List.take_length] at jB
 exact k H' e jB x l
end
theorem SV:d1 "Latn"="latn":=by kernel_rfl
section
variable{lo N:Nat}{H:ao}{aV:Nat}{ms:cG}{pr:List (Str×V)}{a_:List (List Str×V)}
theorem NV{G:Prop}(D:Dat lo N H aV ms pr a_){t w:Str}(f:jf w)(aR:mG a_ "sc" w= .str "Latn")(bg:t="Latn"∨t="Grek"∨t="Zzzz")(k:∀H',qK [.ins 461 aV, .str "sc", .str t, .str w] H=some (.bool (t=="Latn"),H')→Ext H H'→G):G:=by
 have bY:=pz D (x:="sc") f (by kernel_rfl)
 rw[aR] at bY
 have a6:=Ext.app (H:=H) [eJ w]
 generalize H++[eJ w]=H1 at*
 have cM:=rb (H:=H1) (x:="Latn") (by decide+kernel)
 rw[SV] at cM
 have bj:=a6.trans (.app [eJ "Latn"])
 generalize H1++[eJ "Latn"]=aG at*
 have eE:=rb (H:=aG) (x:=t) (by rcases bg with rfl|rfl|rfl<;>decide+kernel)
 have aU:(d1 t=="latn")=(t=="Latn"):=by rcases bg with rfl|rfl|rfl<;>kernel_rfl
 have UQ:yd [.str t, .str "sc"] aG=some (.str t,aG):=Run.is (cu (c6 (iL (bf (ak (ae rfl) (ak aF aJ)) rfl)) (c6 (bV (ae rfl) aF rfl) (fs (iL (bf (ak (ae rfl) (ak aF aJ)) rfl)) (cN (ae rfl) rfl)))) rfl)
 exact k _ (Run.is (cu (c6 (iL (bf (ak (ae rfl) (ak aF aJ)) rfl)) (c6 (fE (bV (ae rfl) aF (by kernel_rfl))) (cq (bf (ak (ae rfl) (ak (ae rfl) (ak (ae rfl) aJ))) bY) (c6 (fE (bV (ae rfl) aF (by kernel_rfl))) (c6 (mA (iL (bf (ak (ae rfl) (ak aF aJ)) rfl)) (mA (fE (bV (ae rfl) aF (by kernel_rfl))) xQ)) (cq (bf (ak (lp (bV (ae rfl) aF rfl) (ae rfl)) aJ) cM) (c6 (fE (bV (ae rfl) aF (by kernel_rfl))) (c6 (bV (ae rfl) aF (by kernel_rfl)) (cq (bf (ak (ae rfl) (ak (ae rfl) aJ)) UQ)
  (cN (tl (b:=false) (c:=true) (l0 (ae rfl) aF rfl) (l0 (bf (ak (ae rfl) aJ) eE) (ae rfl) (congrArg some aU))) rfl)))))))))) rfl)) (bj.trans (.app _))
end
theorem Vi:("230":Str)=⟨#[50,51,48]⟩:=by decide+kernel
section
variable{H:ao}
theorem N6{σ:aN}(h:σ 1=some (.str "230")):ef [] (cP (aa 1)) (cx 1) eY (aO oo [(aa 1)]) σ H=some (.loc H.length,H++[.list [.int 50, .int 51, .int 48]]):=by
 rw[Vi] at h
 exact oh (as:=[50,51,48]) (F:=fun c:Nat=> .str ⟨#[c]⟩) (fun _=>true) (fun c=> .int c) (el (ae h) rfl) (fun i G _=>match i with|0=>rfl|1=>rfl|2=>rfl|i+3=>rfl) rfl (show 3≤1000000 by decide) fun x _ cJ G _ t _=>⟨rfl,fun _=>bf (ak (ae t) aJ) (Em x G)⟩
theorem Of{L:Nat}(bH:H[L]?=some (.list [.int 50, .int 51, .int 48])):sI [.loc L] H=some (.int 230,H):=by
 refine Run.is (cu (c6 (bV (bf (ak (ae rfl) aJ) (pE bH (show 3<2^60 by decide))) aF rfl) (cq aF (fB (el (ae rfl) (fo bH)) 3 (by decide) (fun i σ H'=>H=H'∧σ 1=some (.int (([0,2,23,230]:List Int).getD i 0))) ⟨rfl,rfl⟩ ?_ ?_ ?_))) rfl)
 ·rintro i σ _ hi ⟨rfl,s1⟩
  have go:∀{a c b:Int} {K:Out→Prop},σ 1=some (.int a)→48≤c→c≤57→a.natAbs<2^31→10*a+c - 48=b→([V.int 50, .int 51, .int 48]:List V)[i]?=some (.int c)→
   Turn (i2 L) (cx 2) (aq (b8 (po (lj .LtE .LtE (aj (.int 48)) (aa 2) (aj (.int 57)))) (aq (bS (aj .none)) aI) aI) (aq (bT 1 (bI .Sub (bI .Add (bI .Mult (aj (.int 10)) (aa 1)) (aa 2)) (aj (.int 48)))) aI)) i σ H (ip (fun σ H'=>H=H'∧σ 1=some (.int b)) K):=fun{a c b} K s1 ag ah aE a7 cj=>
   .mk (v:= .int c) (dJ bH cj) rfl (c6 (xP (b:=true) (gL aF (ae rfl) (h' ag) aF (h' ah))) (cq (cT (cT (cT aF (ae s1) (qZ ⟨by decide,aE⟩)) (ae rfl) (sX rfl)) aF (sZ a7)) (ez ⟨rfl,rfl⟩)))
  obtain _|_|_|i:=i
  ·exact go s1 (by decide) (by decide) (by decide) (by decide) rfl
  ·exact go s1 (by decide) (by decide) (by decide) (by decide) rfl
  ·exact go s1 (by decide) (by decide) (by decide) (by decide) rfl
  ·exact absurd hi (Nat.not_lt.mpr (Nat.le_add_left 3 i))
 ·rintro σ _ ⟨rfl,s1⟩
  exact dJ bH rfl
 ·rintro σ _ ⟨rfl,s1⟩
  exact cN (ae s1) rfl
end
theorem To(H:ao):ze [.str "230", .str "/"] H=some (.loc H.length,H++[.list [.str "230"]]):=by
 have ag:("230":Str).length≤1000000∧("/":Str).length≠0∧(Builtin.Str.partsBetween "230" (Builtin.Str.occurrences "230" "/" 0 ("230":Str).length (("230":Str).length+1)) ("/":Str).length).length≤1000000:=by decide+kernel
 have ah:Txt.split "230" "/"=[("230":Str)]:=by kernel_rfl
 refine(if_pos ag).trans ?_
 rw[ah];rfl
theorem Og{H:ao}{E:fH}{σ:aN}{dR:ao}{L:Nat}(fm:E σ dR=some (i2 L,H))(bH:H[L]?=some (.list [.str "230"])):
 ef [] E (cx 1) eY (aO sI [(ef [] (cP (aa 1)) (cx 1) eY (aO oo [(aa 1)]))]) σ dR=some (.loc H.length,H++[.list [.int 230]]++[.list [.int 50, .int 51, .int 48]]):=by
 have g:=Ext.app [aM.list []] _ _ bH
 have g2:=(Ext.app [aM.list [.int 230]]).trans (.app [aM.list [.int 50, .int 51, .int 48]]) _ _ bH
 have aL:=N6 (H:=H++[.list []]) (σ:=upd (hF [] σ) 1 (.str "230")) rfl
 have y':=Of (bP (H:=H++[.list []]) (m:= .list [.int 50, .int 51, .int 48]))
 obtain⟨f,hf⟩:∃f,kx=f+2:=⟨kx - 2,rfl⟩
 have e:=s9 (f:=f+1) (cJ:=hF [] σ) (T:=cx 1) (Ti:=eY) (l:=H.length) (dJ g (i:=0) rfl) rfl rfl (bf (ak aL aJ) y') (Ext.app _ _ _ bP) (Nat.zero_le _)
 have jK:=yP (l:=H.length) (T:=cx 1) (Ti:=eY) (De:=aO sI [(ef [] (cP (aa 1)) (cx 1) eY (aO oo [(aa 1)]))]) (f:=f) (cJ:=upd (hF [] σ) 1 (.str "230")) (dJ g2 (i:=1) rfl)
 rw[qY] at e
 exact D5 fm rfl (hf▸e.trans jK)
theorem N4{G:Prop}{H:ao}(k:∀H',u8 [.str " 230 "] H=some (.tup [.int 230, .int 1],H')→Ext H H'→G):G:=by
 have av:=To H
 have a6:=Ext.app (H:=H) [aM.list [.str "230"]]
 have g1:=bP (H:=H) (m:= .list [.str "230"])
 generalize H++[aM.list [.str "230"]]=H1 at*
 have y':=fun(E:fH) (σ:aN) (h:E σ H=some (i2 H.length,H1))=>Og h g1
 have g:=Ext.app [aM.list [.int 50, .int 51, .int 48]] _ _ (bP (H:=H1) (m:= .list [.int 230]))
 have bj:=(a6.trans (.app [aM.list [.int 230]])).trans (.app [aM.list [.int 50, .int 51, .int 48]])
 generalize H1++[aM.list [.int 230]]++[aM.list [.int 50, .int 51, .int 48]]=aG at*
 have a3:=pE g (show 1<2^60 by decide)
 have QR:xV aG .none (.loc H1.length)=some false:=bi (show toD aG 8 (.loc H1.length)=some (PyData.list [.int 230])from qu g) rfl
 have wN:=j4 g (i:=0) rfl (by decide)
 have ag:zf [.str " 230 ", .str " "] H=some (.str "230",H):=by kernel_rfl
 have ah:(V.str (hx "230" none (some 1) none),H)=(.str "2",H):=by kernel_rfl
 have aE:(V.str (hx "230" (some 0) none none),H)=(.str "230",H):=by kernel_rfl
 have dH:(hx "230" none (some 1) none).length≤1000:=by decide+kernel
 have eg:(hx "230" (some 0) none none).length≤1000:=by decide+kernel
 exact k aG (Run.is (cu (cq (dM (ae rfl) rfl (ak aF aJ) ag) (cq (l0 (l2 (ae rfl) gR (l1 aF) gR ((xX dH).trans (congrArg some ah))) aF (b:=false) (by kernel_rfl)) (cq (y' _ _ (el (dM (l2 (ae rfl) (l1 (lp (iL (ae rfl)) aF)) gR gR ((xX eg).trans (congrArg some aE))) rfl (ak aF aJ) av) (fo g1))) (c6 (mA (bV (bf (ak (ae rfl) aJ) a3) aF rfl) (mA (bV aF (ae rfl) QR) (mA (fE (bV (bf (ak (ae rfl) aJ) a3) aF rfl)) xQ))) (cN (et (ak (lp (iL (ae rfl)) (cm (ae rfl) aF wN)) (ak (lp (bV (bf (ak (ae rfl) aJ) a3) aF rfl) aF) aJ)) (show 2≤1000 by decide)) rfl))))) rfl)) bj
theorem OM:jf " 230 ":=⟨by decide+kernel,by decide+kernel,by decide+kernel⟩
section
variable{lo N:Nat}{H:ao}{aV:Nat}{ms:cG}{pr:List (Str×V)}{a_:List (List Str×V)}{G:Prop}
theorem NU{i:Int}(hi:i=230∨i=9∨i=0)(k:∀H',ya [.int i, .str " 230 "] H=some (.bool (i==230),H')→Ext H H'→G):G:=by
 refine N4 fun H' e x=>k H' (Run.is (cu (xn (oj (iL (bf (ak (ae rfl) (ak aF aJ)) rfl)) (et (ak (ae rfl) (ak aF aJ)) (show 2≤1000 by decide))) rfl (cq (bf (ak (ae rfl) aJ) e) (cN (tl (b:=false) (c:=true) (l0 (ae rfl) aF rfl) (l0 (cT (cm (ae rfl) aF (oS (i:=0) rfl (by decide))) (ae rfl) (qZ ⟨by decide,by decide⟩)) (cT (ae rfl) (cm (ae rfl) aF (oS (i:=1) rfl (by decide))) (qZ ⟨?_,by decide⟩)) (b:=i==230) ?_)) rfl))) rfl)) x
 ·rcases hi with rfl|rfl|rfl<;>decide
 ·rcases hi with rfl|rfl|rfl<;>rfl
theorem NT(D:Dat lo N H aV ms pr a_){i:Int}(aR:mG a_ "ccc" " 230 "= .none)(hi:i=230∨i=9∨i=0)(k:∀H',qK [.ins 461 aV, .str "ccc", .int i, .str " 230 "] H=some (.bool (i==230),H')→Ext H H'→G):G:=by
 have bY:=pz D (x:="ccc") OM (by kernel_rfl)
 rw[aR] at bY
 have a6:=Ext.app (H:=H) [eJ " 230 "]
 generalize H++[eJ " 230 "]=H1 at*
 exact NU hi fun H' e x=>k H' (Run.is (cu (c6 (iL (bf (ak (ae rfl) (ak aF aJ)) rfl)) (c6 (fE (bV (ae rfl) aF (by kernel_rfl))) (cq (bf (ak (ae rfl) (ak (ae rfl) (ak (ae rfl) aJ))) bY) (c6 (fE (bV (ae rfl) aF (by kernel_rfl))) (fs (Kr (iL (bf (ak (ae rfl) (ak aF aJ)) rfl))) (cN (bf (ak (ae rfl) (ak (oj (Kr (bV (ae rfl) aF rfl)) (ae rfl)) aJ)) e) rfl)))))) rfl)) (a6.trans x)
end
noncomputable def Gl:V→Bool
 | .none=>true
 |_=>false
noncomputable def Ar(y:Str):V→Bool
 | .str z=>z==y
 |_=>false
theorem wR{v:V}(h:Gl v=true):v= .none:=by cases v<;>first|rfl|cases h
theorem wS{v:V}{y:Str}(h:Ar y v=true):v= .str y:=by
 cases v<;>first|cases h|skip
 rw[eq_of_beq h]
noncomputable def zk(x:Str):Bool:=decide (x.length≤1000)&&decide ((hx (d1 x) none (some 2) none).length≤1000)&&decide ((hx (d1 x) (some 2) none none).length≤1000)
theorem ON{x:Str}(h:zk x=true):jf x:=by
 unfold zk at h
 rw[Bool.and_eq_true,Bool.and_eq_true,decide_eq_true_eq,decide_eq_true_eq,decide_eq_true_eq] at h
 exact⟨h.1.1,h.1.2,h.2⟩
noncomputable def gY:List Str:=["Foo Bar","foobar","FOO_BAR","is foo-bar","isFooBar"]
noncomputable def fv:List Str:=["Old Latin","oldlatin","OLD_LATIN","is old-latin","isOldLatin"]
noncomputable def vG:List Str:=["foobaz"]
noncomputable def Bn:List Str:=["BIG sort","foobaz","great greek","greatlatin","Big-Sort","Great-Greek","Latn","Grek"]
noncomputable def nv:List (Str×V):=lI "ccc" ["Big-Sort"] (lI "sc" ["Foo Bar"] [])
noncomputable def j5:List (List Str×V):=ny "sc" "Grek" ["Grek","Great-Greek"] (ny "sc" "Latn" ["Latn","Old Latin"] [])
theorem O4(x:Str):ky [] x= .none:=ite_self _
theorem KY(x y:Str):mG [] x y= .none:=rfl
theorem xZ:∀x∈gY++fv++Bn,jf x:=by
 have h:(gY++fv++Bn).all zk=true:=by decide+kernel
 exact fun x af=>ON (List.all_eq_true.mp h x af)
theorem Je:∀x∈gY++vG,ky l' x= .none:=by
 have h:(gY++vG).all (fun x=>Gl (ky l' x))=true:=by decide+kernel
 exact fun x af=>wR (List.all_eq_true.mp h x af)
theorem xj:∀x∈gY++vG,cH x jo=none∧¬ca x:=by
 have h:(gY++vG).all (fun x=>(cH x jo).isNone&& !(x=="sc")&& !(x=="ccc"))=true:=by decide+kernel
 intro x af
 have:=List.all_eq_true.mp h x af
 rw[Bool.and_eq_true,Bool.and_eq_true,Bool.not_eq_true',Bool.not_eq_true',Option.isNone_iff_eq_none] at this
 exact⟨this.1.1,fun q=>q.elim (fun e=>ne_of_beq_false this.1.2 e) fun e=>ne_of_beq_false this.2 e⟩
theorem Uu:∀x∈gY,ky nv x= .str "sc":=by
 have h:gY.all (fun x=>Ar "sc" (ky nv x))=true:=by decide+kernel
 exact fun x af=>wS (List.all_eq_true.mp h x af)
theorem Ut:ky nv "BIG sort"= .str "ccc":=wS (by decide+kernel)
theorem Us:ky nv "foobaz"= .none:=wR (by decide+kernel)
theorem K0:∀x∈fv,mG j5 "sc" x= .str "Latn":=by
 have h:fv.all (fun x=>Ar "Latn" (mG j5 "sc" x))=true:=by decide+kernel
 exact fun x af=>wS (List.all_eq_true.mp h x af)
theorem Xg:mG j5 "sc" "great greek"= .str "Grek":=wS (by decide+kernel)
theorem Xf:mG j5 "sc" "greatlatin"= .none:=wR (by decide+kernel)
theorem Xe:mG j5 "ccc" " 230 "= .none:=wR (by decide+kernel)
theorem Jn:d1 "Foo Bar"≠"sc"∧d1 "Big-Sort"≠"sc":=by decide+kernel
theorem Ja:ir []:=⟨fun _ h=>(by cases h),rfl⟩
noncomputable def BF:cK:=ei [(bq .NotEq (aa 8) (aj (.int 7))),(bq .IsNot (aO o3 [(aa 0),(aj (.str "sc")),(aa 7),(bG (aa 5) (aa 3))]) (eP .Eq (aa 8) (aj (.str "Latn"))))]
noncomputable def yT:cK:=ei [(bq .NotEq (aa 9) (aj (.str "x"))),(bq .IsNot (aO o3 [(aa 0),(aj (.str "ccc")),(aa 7),(aj (.str " 230 "))]) (eP .Eq (aa 9) (aj (.int 230))))]
noncomputable def K6:b9:=(aq (kt [8,9] (cQ [(aO j_ [(aa 2),(aj (.str "sc")),(aa 7)]),(aO j_ [(aa 2),(aj (.str "ccc")),(aa 7)])])) (aq (b8 BF (aq (bS (aj (.bool false))) aI) aI) (aq (b8 yT (aq (bS (aj (.bool false))) aI) aI) aI)))
section
variable{lo N:Nat}{H:ao}{aV:Nat}{ms:cG}{pr:List (Str×V)}{a_:List (List Str×V)}{G:Prop}
theorem zH(D:Dat lo N H aV ms pr a_)(cb:N≤1000){ps:List bF}(aZ:∀y,bO ms y=made ps y)(aH:∀p∈ps,p.Ok){x:Str}(af:ca x){c:Int}(h0:0≤c)(bg:c≤top):hZ [.ins 461 aV, .str x, .int c] H=some ((told ps x c).v,H):=by
 obtain⟨w,hw,e⟩:=Nl (n:=c) D af cb h0
 rw[aZ x] at hw
 exact Option.some.inj (hw.symm.trans (rS x aH h0 bg))▸e
theorem K5{σ:aN}{H':ao}{x w:Str}{v q u:V}{n:Int}{b:Bool}{R:a0}{j:Nat}(D:Dat lo N H aV ms pr a_)(af:(x==("scx":Str))=false)(s0:σ 0=some (.ins 461 aV))(sw:R σ H=some (.str w,H))(hN:σ 7=some (.int n))(sb:σ j=some v)(b6:hZ [.ins 461 aV, .str x, .int n] H=some (v,H))(dB:hW .NotEq v q H=some true)
 (e:qK [.ins 461 aV, .str x,v, .str w] H=some (.bool b,H')) (heq:hW .Eq v u H'=some b):ei [(bq .NotEq (aa j) (aj q)),(bq .IsNot (aO o3 [(aa 0),(aj (.str x)),(aa 7),R]) (eP .Eq (aa j) (aj u)))] σ H=some (false,H'):=by
 obtain⟨dd,m,p,mH,E⟩:=D.ex
 have em:o3 [.ins 461 aV, .str x, .int n, .str w] H=some (.bool b,H'):=Run.is (cu (cq (dM (ae rfl) (jX E.go (by kernel_rfl)) (ak (ae rfl) (ak (ae rfl) aJ)) b6) (c6 (fE (bV (ae rfl) aF (congrArg some af))) (cN (bf (ak (ae rfl) (ak (ae rfl) (ak (ae rfl) (ak (ae rfl) aJ)))) e) rfl))) rfl)
 exact g5 (bV (ae sb) aF dB) (fE (bV (bf (ak (ae s0) (ak aF (ak (ae hN) (ak sw aJ)))) em) (l0 (ae sb) aF heq) (by cases b<;>rfl)))
theorem XA{K:Out→Prop}(D:Dat lo N H aV ms pr j5)(cb:N≤1000){ps:List bF}(aZ:∀y,bO ms y=made ps y)(aH:∀p∈ps,p.Ok)(aD:ps.length≤100){c:Int}(h0:0≤c)(bg:c≤top){ln iP way:Nat}(au:H[ln]?=some (.list (ps.map bF.V)))(cj:H[iP]?=some (.list (fv.map .str)))(gc:way<5)
 {σ:aN} (s0:σ 0=some (.ins 461 aV)) (s2:σ 2=some (.loc ln)) (s3:σ 3=some (.int way)) (s5:σ 5=some (.loc iP)) (hN:σ 7=some (.int c)) {I:aN→ao→Prop}
 (k:∀v w H',Ext H H'→I (upd (upd σ 9 v) 8 w) H'):Run (K6 σ H) (ip I K):=by
 have hw:fv[way]?=some (fv[way]'gc):=List.getElem?_eq_getElem _
 have Aa:fv[way]'gc∈fv:=List.getElem_mem _
 generalize fv[way]'gc=w at*
 have O':jf w:=xZ w (List.mem_append_left _ (List.mem_append_right _ Aa))
 have aR:=K0 w Aa
 have t1:=rc (x:="sc") (.inl rfl) (c:=c) au aD
 have a6:=Ext.app (H:=H) [aM.aS gK]
 generalize H++[aM.aS gK]=H1 at*
 have gL:=rc (x:="ccc") (.inr rfl) (c:=c) (a6 _ _ au) aD
 have bj:=a6.trans (.app [aM.aS gK])
 generalize H1++[aM.aS gK]=aG at*
 have v1:=j2 (x:="sc") (.inl rfl) c aH
 have v2:=j2 (x:="ccc") (.inr rfl) c aH
 have dc:=D.keep bj.keep
 have g1:=zH dc cb aZ aH (x:="sc") (.inl rfl) h0 bg
 have g2:=fun H' (D:Dat lo N H' aV ms pr j5)=>zH D cb aZ aH (x:="ccc") (.inr rfl) h0 bg
 have Rk:=j4 (x:= .str w) (bj _ _ cj) (by rw[List.getElem?_map,hw];rfl) (Nat.lt_trans gc (by decide))
 generalize told ps "sc" c=t at*
 generalize told ps "ccc" c=u at*
 clear aZ aH aD hw Aa au gc a6
 obtain⟨H3,eE,cc⟩:∃H3,BF (upd (upd σ 9 u.v) 8 t.v) aG=some (false,H3)∧Ext aG H3:=by
  have go:∀{z:Str},z="Latn"∨z="Grek"∨z="Zzzz"→t= .s z→∃H3,BF (upd (upd σ 9 u.v) 8 t.v) aG=some (false,H3)∧Ext aG H3:=fun hz e=>by
   subst e
   exact NV dc O' aR hz fun H3 e x=>⟨H3,K5 dc (by kernel_rfl) s0 (cm (ae s5) (ae s3) Rk) hN rfl g1 rfl e rfl,x⟩
  have:t= .s "Latn"∨t= .s "Grek"∨t= .s "Zzzz"∨t= .i 7:=AU v1
  exact this.elim (go (.inl rfl)) fun h=>h.elim (go (.inr (.inl rfl))) fun h=>h.elim (go (.inr (.inr rfl))) fun h=>⟨aG,fE (bV (ae rfl) aF (by rw[h];rfl)), .refl⟩
 have lP:=dc.keep cc.keep
 have g2:=g2 H3 lP
 obtain⟨cW,fY,dK⟩:∃cW,yT (upd (upd σ 9 u.v) 8 t.v) H3=some (false,cW)∧Ext H3 cW:=by
  have go:∀{z:Int},z=230∨z=9∨z=0→u= .i z→∃cW,yT (upd (upd σ 9 u.v) 8 t.v) H3=some (false,cW)∧Ext H3 cW:=fun hz e=>by
   subst e
   exact NT lP Xe hz fun cW e x=>⟨cW,K5 lP (by kernel_rfl) s0 aF hN rfl g2 rfl e rfl,x⟩
  have:u= .i 230∨u= .i 9∨u= .i 0∨u= .s "x":=AU v2
  exact this.elim (go (.inl rfl)) fun h=>h.elim (go (.inr (.inl rfl))) fun h=>h.elim (go (.inr (.inr rfl))) fun h=>⟨H3,fE (bV (ae rfl) aF (by rw[h];rfl)), .refl⟩
 exact qf (et (ak (bf (ak (ae s2) (ak aF (ak (ae hN) aJ))) t1) (ak (bf (ak (ae s2) (ak aF (ak (ae hN) aJ))) gL) aJ)) (show 2≤1000 by decide)) rfl (c6 eE (c6 fY (ez (k _ _ _ ((bj.trans cc).trans dK)))))
end
inductive Mr(H:ao)(aV ln way iP:Nat)(i:Nat)(σ:aN)(H':ao):Prop
 |mk (s0:σ 0=some (.ins 461 aV)) (s2:σ 2=some (.loc ln)) (s3:σ 3=some (.int way)) (s5:σ 5=some (.loc iP)) (x:Ext H H')
section
variable{lo N:Nat}{H dR:ao}{aV:Nat}{ms:cG}{pr:List (Str×V)}{a_:List (List Str×V)}
theorem Xw{K:Out→Prop}{R:b9}{it:fH}{σ:aN}{mP ln iP way:Nat}(hit:it σ dR=some (i2 mP,H))(D:Dat lo N H aV ms pr j5)(cb:N≤1000){ps:List bF}(aZ:∀y,bO ms y=made ps y)(aH:∀p∈ps,p.Ok)(aD:ps.length≤100)(au:H[ln]?=some (.list (ps.map bF.V)))(cj:H[iP]?=some (.list (fv.map .str)))(gc:way<5)
 {cs:List Int} (aU:∀c∈cs,0≤c∧c≤top) (hz:cs.length≤1000) (wn:H[mP]?=some (.list (cs.map .int)))
 (s0:σ 0=some (.ins 461 aV)) (s2:σ 2=some (.loc ln)) (s3:σ 3=some (.int way)) (s5:σ 5=some (.loc iP)) (k:∀ba H',Run (R ba H') K):Run (aq (dz it (cx 7) K6) R σ dR) K:=by
 refine fB hit cs.length (Nat.le_trans hz (by decide)) (Mr H aV ln way iP) ⟨s0,s2,s3,s5, .refl⟩ ?_ (fun σ H' ⟨_,_,_,_,x⟩=>dJ (x _ _ wn) (List.getElem?_eq_none (Nat.le_of_eq (List.length_map _)))) fun σ H' _=>k σ H'
 rintro i b3 H1 hi ⟨s0,s2,s3,s5,x⟩
 have zQ:cs[i]?=some cs[i]:=List.getElem?_eq_getElem hi
 have ob:=aU _ (List.getElem_mem hi)
 exact .mk (v:= .int cs[i]) (dJ (x _ _ wn) (by rw[List.getElem?_map,zQ];rfl)) rfl (XA (σ:=upd b3 7 (.int cs[i])) (D.keep x.keep) cb aZ aH aD ob.1 ob.2 (x _ _ au) (x _ _ cj) gc s0 s2 s3 s5 rfl fun v w H' jA=>⟨s0,s2,s3,s5,x.trans jA⟩)
end
theorem list_eq{H:ao}{a b:Nat}{xs:List V}{ps:List PyData}(bg:xs.mapM (toD H 7)=some ps)(aY:SeqAt.shaped (PyData.list ps)=true)(aZ:PyData.eqv (PyData.list ps) (PyData.list ps)=true)(aP:H[a]?=some (.list xs))(az:H[b]?=some (.list xs)):vEq H (.loc a) (.loc b)=some true:=by
 have t:∀{a},H[a]?=some (.list xs)→toD H 8 (.loc a)=some (.list ps):=fun h=>(qu h).trans (congrArg (Option.map PyData.list) bg)
 exact(py (t aP) (t az) aY aY).trans (congrArg some aZ)
noncomputable def o4(p w:Nat)(H H':ao):Prop:=∀(j:Nat) (o:aM),j≠p→j≠w→H[j]?=some o→H'[j]?=some o
section
variable{lo N:Nat}{H:ao}{aV:Nat}{ms:cG}{pr:List (Str×V)}{a_:List (List Str×V)}{dd m p w:Nat}{K:Out→Prop}{σ:aN}{R:b9}
theorem o4.trans{H1 aG:ao}(a:o4 p w H H1)(b:o4 p w H1 aG):o4 p w H aG:=fun j o ag ah h=>b j o ag ah (a j o ag ah h)
theorem D1(D:fw lo N H aV ms pr a_ dd m p w)(ok:ir pr){ws:List Str}{bb:List a0}{y:Str}(s0:σ 0=some (.ins 461 aV))(cL:eH bb σ H=some (ws.map .str,H))(hw:∀x∈ws,x.length≤1000∧d1 x≠"sc")(hz:pr.length+ws.length≤900)
 (k:∀H',fw lo N H' aV ms (lI y ws pr) a_ dd m p w→o4 p w H H'→H.length≤H'.length→Run (R σ H') K):Run (aq (c8 (aO nV [(aa 0),(aj (.str y)),(dList bb)])) R σ H) K:=by
 have x:=Ext.app (H:=H) [aM.list (ws.map .str)]
 exact N9 (y:=y) (D.keep x.keep) ok bP hw hz fun H' e jB jA l=>ge (bf (ak (ae s0) (ak aF (ak (d4 cL (by rw[List.length_map];exact Nat.le_trans (Nat.le_add_left _ _) (Nat.le_trans hz (by decide)))) aJ))) e) (k H' jB (fun j o ag _ h=>jA j o ag (x j o h)) (Nat.le_trans x.len l))
theorem D2(D:fw lo N H aV ms pr a_ dd m p w){ws:List Str}{bb:List a0}{n y:Str}(s0:σ 0=some (.ins 461 aV))(cL:eH bb σ H=some (ws.map .str,H))(hw:∀x∈ws,x.length≤1000)(hz:a_.length+ws.length≤900)
 (k:∀H',fw lo N H' aV ms pr (ny n y ws a_) dd m p w→o4 p w H H'→H.length≤H'.length→Run (R σ H') K):Run (aq (c8 (aO nW [(aa 0),(aj (.str n)),(aj (.str y)),(dList bb)])) R σ H) K:=by
 have x:=Ext.app (H:=H) [aM.list (ws.map .str)]
 exact N_ (n:=n) (y:=y) (D.keep x.keep) bP hw hz fun H' e jB jA l=>ge (bf (ak (ae s0) (ak aF (ak aF (ak (d4 cL (by rw[List.length_map];exact Nat.le_trans (Nat.le_add_left _ _) (Nat.le_trans hz (by decide)))) aJ)))) e) (k H' jB (fun j o _ ah h=>jA j o ah (x j o h)) (Nat.le_trans x.len l))
theorem Xz(D:fw lo N H aV ms [] [] dd m p w)(s0:σ 0=some (.ins 461 aV))(k:∀H',fw lo N H' aV ms nv j5 dd m p w→o4 p w H H'→H.length≤H'.length→Run (R σ H') K):
 Run (aq (c8 (aO nV [(aa 0),(aj (.str "sc")),(dList [(aj (.str "Foo Bar"))])])) (aq (c8 (aO nV [(aa 0),(aj (.str "ccc")),(dList [(aj (.str "Big-Sort"))])])) (aq (c8 (aO nW [(aa 0),(aj (.str "sc")),(aj (.str "Latn")),(dList [(aj (.str "Latn")),(aj (.str "Old Latin"))])])) (aq (c8 (aO nW [(aa 0),(aj (.str "sc")),(aj (.str "Grek")),(dList [(aj (.str "Grek")),(aj (.str "Great-Greek"))])])) R))) σ H) K:=by
 have c1:∀x∈(["Foo Bar"]:List Str),x.length≤1000∧d1 x≠"sc":=fun x af=>by rw[List.mem_singleton.mp af];exact⟨by decide+kernel,Jn.1⟩
 refine D1 (ws:=["Foo Bar"]) D Ja s0 (ak aF aJ) c1 (show 0+1≤900 by decide) fun H1 dY a6 cr=> ?_
 refine D1 (ws:=["Big-Sort"]) dY (Bw Ja fun x af=>(c1 x af).2) s0 (ak aF aJ) (fun x af=>by rw[List.mem_singleton.mp af];exact⟨by decide+kernel,Jn.2⟩) (show 1+1≤900 by decide) fun aG dc bj dH=> ?_
 have dE:∀x∈(["Latn","Old Latin"]:List Str),x.length≤1000:=by decide+kernel
 have qD:∀x∈(["Grek","Great-Greek"]:List Str),x.length≤1000:=by decide+kernel
 refine D2 (ws:=["Latn","Old Latin"]) dc s0 (ak aF (ak aF aJ)) dE (show 0+2≤900 by decide) fun H3 lP cc eg=> ?_
 exact D2 (ws:=["Grek","Great-Greek"]) lP s0 (ak aF (ak aF aJ)) qD (Nat.le_trans (Nat.add_le_add_right (wb fun p x=>l7 ..) 2) (show 0+2+2≤900 by decide)) fun cW oV dK gG=>k cW oV (((a6.trans bj).trans cc).trans dK) (Nat.le_trans (Nat.le_trans cr dH) (Nat.le_trans eg gG))
end
section
variable{lo N dW N':Nat}{H:ao}{aV nQ:Nat}{ms jV:cG}{pr:List (Str×V)}{a_:List (List Str×V)}{G:Prop}
theorem Es{w:Str}(h:w∈gY):jf w:=xZ w (List.mem_append_left _ (List.mem_append_left _ h))
theorem zl{w:Str}(h:w∈fv):jf w:=xZ w (List.mem_append_left _ (List.mem_append_right _ h))
theorem v8{w:Str}(h:w∈Bn):jf w:=xZ w (List.mem_append_right _ h)
theorem sg{L way:Nat}{ws:List Str}{w:Str}(cj:H[L]?=some (.list (ws.map .str)))(hw:ws[way]?=some w)(hz:ws.length≤1000):f5 (.loc L) (.int way) H=some (.str w):=
 j4 cj (by rw[List.getElem?_map,hw];rfl) (Nat.lt_of_lt_of_le (p_ hw) (Nat.le_trans hz (Nat.le_of_ble_eq_true rfl)))
theorem Jd(D:Dat lo N H aV ms [] a_){w:Str}(hw:w∈gY)(k:∀H',jd [.ins 461 aV, .str w] H=some (.none,H')→Ext H H'→G):G:=
 Jc D (Es hw) (O4 w) (Je w (List.mem_append_left _ hw)) (xj w (List.mem_append_left _ hw)).1 (xj w (List.mem_append_left _ hw)).2 k
theorem Xx(D:Dat lo N H aV ms [] []){way qN iP:Nat}{σ:aN}(s0:σ 0=some (.ins 461 aV))(s3:σ 3=some (.int way))(s4:σ 4=some (.loc qN))(s5:σ 5=some (.loc iP))(a7:H[qN]?=some (.list (gY.map .str)))(cj:H[iP]?=some (.list (fv.map .str)))(gc:way<5)
 (k:∀H',(bq .NotEq (dList [(aO jd [(aa 0),(bG (aa 4) (aa 3))]),(aO jD [(aa 0),(aj (.str "sc")),(bG (aa 5) (aa 3))])]) (dList [(aj .none),(aj .none)])) σ H=some (false,H')→Ext H H'→G):G:=by
 have aP:gY[way]?=some (gY[way]'gc):=List.getElem?_eq_getElem _
 have az:fv[way]?=some (fv[way]'gc):=List.getElem?_eq_getElem _
 refine Jd D (List.mem_of_getElem? aP) fun H1 bY a6=> ?_
 have cM:=pz (D.keep a6.keep) (x:="sc") (zl (List.mem_of_getElem? az)) (by kernel_rfl)
 rw[KY] at cM
 have rC:=sg a7 aP (show 5≤1000 by decide)
 have kH:=sg (a6 _ _ cj) az (show 5≤1000 by decide)
 have bj:=a6.trans (.app [eJ (fv[way]'gc)])
 generalize H1++[eJ (fv[way]'gc)]=aG at*
 refine k _ (bV (d4 (ak (bf (ak (ae s0) (ak (cm (ae s4) (ae s3) rC) aJ)) bY) (ak (bf (ak (ae s0) (ak aF (ak (cm (ae s5) (ae s3) kH) aJ))) cM) aJ)) (show 2≤1000 by decide)) (d4 (ak aF (ak aF aJ)) (show 2≤1000 by decide)) (congrArg (Option.map not) (list_eq (ps:=[.none, .none]) rfl (by kernel_rfl) (by kernel_rfl) (Ext.app _ _ _ bP) bP))) ((bj.trans (.app _)).trans (.app _))
end
section
variable{lo N dW N':Nat}{H:ao}{aV nQ:Nat}{ms jV:cG}{K:Out→Prop}{R:b9}
theorem Xy(D:Dat lo N H aV ms nv j5)(E:Dat dW N' H nQ jV [] []){way qN:Nat}{σ:aN}(s0:σ 0=some (.ins 461 aV))(s1:σ 1=some (.ins 461 nQ))(s3:σ 3=some (.int way))(s4:σ 4=some (.loc qN))(a7:H[qN]?=some (.list (gY.map .str)))(gc:way<5)
 (k:∀H' v,Ext H H'→Run (R (upd σ 6 v) H') K):Run (aq (bT 6 (dList [(aO jd [(aa 0),(bG (aa 4) (aa 3))]),(aO jd [(aa 0),(aj (.str "BIG sort"))]),(aO jd [(aa 0),(aj (.str "foobaz"))]),(aO jd [(aa 1),(bG (aa 4) (aa 3))])])) (aq (b8 (bq .NotEq (aa 6) (dList [(aj (.str "sc")),(aj (.str "ccc")),(aj .none),(aj .none)])) (aq (bS (aj (.bool false))) aI) aI) R) σ H) K:=by
 have aP:gY[way]?=some (gY[way]'gc):=List.getElem?_eq_getElem _
 have am:=List.mem_of_getElem? aP
 have rC:=sg a7 aP (show 5≤1000 by decide)
 refine Jb D (Es am) (Uu _ am) fun H1 bY a6=> ?_
 refine Jb (D.keep a6.keep) (v8 (.head _)) Ut fun aG cM bj=> ?_
 have bj:=a6.trans bj
 refine Jc (D.keep bj.keep) (v8 (.tail _ (.head _))) Us (Je _ (.tail _ (.tail _ (.tail _ (.tail _ (.tail _ (.head _))))))) (xj _ (.tail _ (.tail _ (.tail _ (.tail _ (.tail _ (.head _))))))).1 (xj _ (.tail _ (.tail _ (.tail _ (.tail _ (.tail _ (.head _))))))).2 fun H3 eE cc=> ?_
 have cc:=bj.trans cc
 have Ai:=sg (cc _ _ a7) aP (show 5≤1000 by decide)
 refine Jd (E.keep cc.keep) am fun cW fY dK=> ?_
 exact cq (d4 (ak (bf (ak (ae s0) (ak (cm (ae s4) (ae s3) rC) aJ)) bY) (ak (bf (ak (ae s0) (ak aF aJ)) cM) (ak (bf (ak (ae s0) (ak aF aJ)) eE) (ak (bf (ak (ae s1) (ak (cm (ae s4) (ae s3) Ai) aJ)) fY) aJ)))) (show 4≤1000 by decide))
  (c6 (bV (ae rfl) (d4 (ak aF (ak aF (ak aF (ak aF aJ)))) (show 4≤1000 by decide)) (congrArg (Option.map not) (list_eq (ps:=[.str "sc", .str "ccc", .none, .none]) rfl (by kernel_rfl) (by kernel_rfl) (Ext.app _ _ _ bP) bP))) (k _ _ (((cc.trans dK).trans (.app _)).trans (.app _))))
theorem XB(D:Dat lo N H aV ms nv j5)(E:Dat dW N' H nQ jV [] []){way iP:Nat}{σ:aN}(s0:σ 0=some (.ins 461 aV))(s1:σ 1=some (.ins 461 nQ))(s3:σ 3=some (.int way))(s5:σ 5=some (.loc iP))(cj:H[iP]?=some (.list (fv.map .str)))(gc:way<5)
 (k:∀H' v,Ext H H'→Run (R (upd σ 6 v) H') K):Run (aq (bT 6 (dList [(aO jD [(aa 0),(aj (.str "sc")),(bG (aa 5) (aa 3))]),(aO jD [(aa 0),(aj (.str "sc")),(aj (.str "great greek"))]),(aO jD [(aa 0),(aj (.str "sc")),(aj (.str "greatlatin"))]),(aO jD [(aa 1),(aj (.str "sc")),(bG (aa 5) (aa 3))])])) (aq (b8 (bq .NotEq (aa 6) (dList [(aj (.str "Latn")),(aj (.str "Grek")),(aj .none),(aj .none)])) (aq (bS (aj (.bool false))) aI) aI) R) σ H) K:=by
 have aP:fv[way]?=some (fv[way]'gc):=List.getElem?_eq_getElem _
 have am:=List.mem_of_getElem? aP
 have rC:=sg cj aP (show 5≤1000 by decide)
 have bY:=pz D (x:="sc") (zl am) (by kernel_rfl)
 rw[K0 _ am] at bY
 have a6:=Ext.app (H:=H) [eJ (fv[way]'gc)]
 have eD:=zl am
 generalize fv[way]'gc=a at*
 generalize H++[eJ a]=H1 at*
 have cM:=pz (D.keep a6.keep) (x:="sc") (y:="great greek") (v8 (.tail _ (.tail _ (.head _)))) (by kernel_rfl)
 rw[Xg] at cM
 have bj:=a6.trans (.app [eJ "great greek"])
 generalize H1++[eJ "great greek"]=aG at*
 have eE:=pz (D.keep bj.keep) (x:="sc") (y:="greatlatin") (v8 (.tail _ (.tail _ (.tail _ (.head _))))) (by kernel_rfl)
 rw[Xf] at eE
 have cc:=bj.trans (.app [eJ "greatlatin"])
 generalize aG++[eJ "greatlatin"]=H3 at*
 have fY:=pz (E.keep cc.keep) (x:="sc") eD (by kernel_rfl)
 rw[KY] at fY
 have Ai:=sg (cc _ _ cj) aP (show 5≤1000 by decide)
 have dK:=cc.trans (.app [eJ a])
 generalize H3++[eJ a]=cW at*
 exact cq (d4 (ak (bf (ak (ae s0) (ak aF (ak (cm (ae s5) (ae s3) rC) aJ))) bY) (ak (bf (ak (ae s0) (ak aF (ak aF aJ))) cM) (ak (bf (ak (ae s0) (ak aF (ak aF aJ))) eE) (ak (bf (ak (ae s1) (ak aF (ak (cm (ae s5) (ae s3) Ai) aJ))) fY) aJ)))) (show 4≤1000 by decide))
  (c6 (bV (ae rfl) (d4 (ak aF (ak aF (ak aF (ak aF aJ)))) (show 4≤1000 by decide)) (congrArg (Option.map not) (list_eq (ps:=[.str "Latn", .str "Grek", .none, .none]) rfl (by kernel_rfl) (by kernel_rfl) (Ext.app _ _ _ bP) bP))) (k _ _ ((dK.trans (.app _)).trans (.app _))))
end
section
variable{lo N dW N':Nat}{H:ao}{aV nQ:Nat}{ms jV:cG}{dd m p w:Nat}
theorem Oh{G:Prop}(D:fw lo N H aV ms [] [] dd m p w)(E:Dat dW N' H nQ jV [] [])(cb:N≤1000){ps:List bF}(aZ:∀y,bO ms y=made ps y)(aH:∀p∈ps,p.Ok)(aD:ps.length≤30){ln way:Nat}(au:H[ln]?=some (.list (ps.map bF.V)))(gc:way<5)(lA:p<dW)(rA:w<dW)
 (k:∀H',sH [.ins 461 aV, .ins 461 nQ, .loc ln, .int way] H=some (.bool true,H')→G):G:=by
 have np:=d5 au D.E.hj fun e=>nomatch e
 have nw:=d5 au D.E.gm fun e=>nomatch e
 have e_:=ew D.E.hj
 have wl:=ew D.E.gm
 have a6:=Ext.app (H:=H) [aM.list (gY.map .str)]
 have fy:=bP (H:=H) (m:= .list (gY.map .str))
 have cr:=a6.len
 have ll:∀σ:aN,dList [(aj (.str "Foo Bar")),(aj (.str "foobar")),(aj (.str "FOO_BAR")),(aj (.str "is foo-bar")),(aj (.str "isFooBar"))] σ H=some (.loc H.length,H++[.list (gY.map .str)]):=fun σ=>d4 (ak aF (ak aF (ak aF (ak aF (ak aF aJ))))) (show 5≤1000 by decide)
 have me:=Nat.ne_of_gt e_
 have Tp:=Nat.ne_of_gt wl
 generalize H.length=qN at*
 generalize H++[aM.list (gY.map .str)]=H1 at*
 have bj:=a6.trans (.app [aM.list (fv.map .str)])
 have fy:=Ext.app [aM.list (fv.map .str)] _ _ fy
 have iT:=bP (H:=H1) (m:= .list (fv.map .str))
 have y4:∀σ:aN,dList [(aj (.str "Old Latin")),(aj (.str "oldlatin")),(aj (.str "OLD_LATIN")),(aj (.str "is old-latin")),(aj (.str "isOldLatin"))] σ H1=some (.loc H1.length,H1++[.list (fv.map .str)]):=fun σ=>d4 (ak aF (ak aF (ak aF (ak aF (ak aF aJ))))) (show 5≤1000 by decide)
 have w5:=Nat.ne_of_gt (Nat.lt_of_lt_of_le e_ cr)
 have Tq:=Nat.ne_of_gt (Nat.lt_of_lt_of_le wl cr)
 generalize H1.length=iP at*
 generalize H1++[aM.list (fv.map .str)]=aG at*
 have dc:=D.keep bj.keep
 obtain⟨_,e,H',rfl⟩:Run (sH [.ins 461 aV, .ins 461 nQ, .loc ln, .int way] H) fun p=>∃H',p=(.bool true,H'):=by
  refine cu (cq (ll _) (cq (y4 _) (Xx dc.dat rfl rfl rfl rfl fy iT gc fun H3 eE cc=>c6 eE (Xz (dc.keep cc.keep) rfl fun cW oV dK gG=> ?_)))) rfl
  have hX:=bj.trans cc
  have oc:=dK _ _ me Tp (cc _ _ fy)
  have DC:=dK _ _ w5 Tq (cc _ _ iT)
  have cl:=dK _ _ np nw (hX _ _ au)
  have CC:=E.keep (H':=cW) fun j bM FG=>(dK _ _ (Nat.ne_of_gt (Nat.lt_of_lt_of_le lA bM)) (Nat.ne_of_gt (Nat.lt_of_lt_of_le rA bM)) (hX _ _ (List.getElem?_eq_getElem FG))).trans (List.getElem?_eq_getElem FG).symm
  refine Xy oV.dat CC rfl rfl rfl rfl oc gc fun fj Yq gg=> ?_
  refine XB (oV.dat.keep gg.keep) (CC.keep gg.keep) rfl rfl rfl rfl (gg _ _ DC) gc fun d0 v6 eV=> ?_
  have eV:=gg.trans eV
  have UN:=y8 (eV _ _ cl) aH aD
  have iD:(d0++[aM.eI ((dV ps).map gN), .list ((sortI (dV ps)).map .int), .list ((cutsOf ps).map .int)])[d0.length+2]?=some (.list ((cutsOf ps).map .int)):=by
   rw[List.getElem?_append_right (Nat.le_add_right ..),Nat.add_sub_cancel_left];rfl
  have kW:=eV.trans (.app [aM.eI ((dV ps).map gN), .list ((sortI (dV ps)).map .int), .list ((cutsOf ps).map .int)])
  generalize d0++[aM.eI ((dV ps).map gN), .list ((sortI (dV ps)).map .int), .list ((cutsOf ps).map .int)]=jF at*
  have lc:(cutsOf ps).length≤1000:=by
   have aE:(cutsOf ps).length≤(sortI (dV ps)).length:=List.length_filter_le ..
   rw[xJ] at aE
   exact Nat.le_trans aE (Nat.le_trans (kJ aH).2.2.2.2 (Nat.le_trans (Nat.add_le_add_left (Nat.mul_le_mul_left 2 aD) 1) (by decide)))
  have f3:=sk (lo:=none) (hi:=some 4) (st:=none) iD (by rw[List.length_map];exact lc)
  rw[Up,←List.map_take] at f3
  have j7:=kW.trans (.app [aM.list (((cutsOf ps).take 4).map .int)])
  exact Xw (el (l2 (bf (ak (ae rfl) aJ) UN) gR (l1 aF) gR f3) (fo bP)) (oV.dat.keep j7.keep) cb aZ aH (Nat.le_trans aD (by decide)) (j7 _ _ cl) (j7 _ _ DC) gc (fun c aU=>by
   have:=(kp aH).mp (List.mem_of_mem_take aU)
   exact⟨(kJ aH).2.1 c this.1,this.2⟩) (Nat.le_trans (List.length_take_le ..) (by decide)) bP rfl rfl rfl rfl fun ba H'=>cN aF ⟨H',rfl⟩
 exact k H' e
end
inductive nY(H:ao)(l:Nat)(ps:List bF)(lR:Nat):Prop
 |mk (lo N:Nat) (ms:cG) (D:Dat lo N H l ms [] []) (le:N≤lR) (r:∀z,bO ms z=made ps z)
inductive n3(H:ao)(l a3:Nat)(ps:List bF):Prop
 |mk (lo N:Nat) (ms:cG) (dW:Nat) (D:Dat lo N H l ms [] []) (le:N≤60) (r:∀z,bO ms z=made ps z) (F:kd dW H a3 l (bO ms)) (au:lo≤dW)
structure jh(G:ao)(near far:List bF)(ln lf dI dS dN a3:Nat):Prop where
 okN:∀p∈near,p.Ok
 eT:∀p∈far,p.Ok
 z:near.length+far.length≤30
 XL:(iX near far).length≤100
 cb:G[ln]?=some (.list (near.map bF.V))
 fz:G[lf]?=some (.list (far.map bF.V))
 B:nY G dI near 400
 O:nY G dS far 400
 bD:n3 G dN a3 (iX near far)
structure o6(σ:aN)(ln lf dI dS dN a3:Nat):Prop where
 s2:σ 2=some (.loc ln)
 s3:σ 3=some (.loc lf)
 s4:σ 4=some (.ins 461 dI)
 s5:σ 5=some (.ins 461 dS)
 eA:σ 6=some (.ins 461 dN)
 mq:σ 9=some (.ins 496 a3)
section
variable{G H:ao}{near far ps:List bF}{ln lf dI dS dN a3 l lR:Nat}{x:Str}{c:Int}{σ:aN}{i j k:Nat}
theorem nY.ext(x:Ext G H):nY G l ps lR→nY H l ps lR
 |⟨lo,N,ms,D,le,r⟩=>⟨lo,N,ms,D.keep x.keep,le,r⟩
theorem n3.ext(x:Ext G H):n3 G l a3 ps→n3 H l a3 ps
 |⟨lo,N,ms,dW,D,le,r,F,au⟩=>⟨lo,N,ms,dW,D.keep x.keep,le,r,F.keep D au x.keep,au⟩
theorem jh.ext(C:jh G near far ln lf dI dS dN a3)(x:Ext G H):jh H near far ln lf dI dS dN a3:=⟨C.okN,C.eT,C.z,C.XL,x _ _ C.cb,x _ _ C.fz,C.B.ext x,C.O.ext x,C.bD.ext x⟩
theorem Dat.sel{N lo aV:Nat}{ms:cG}{pr a_}(D:Dat lo N H aV ms pr a_)(F:bz){n:Str}(h:∀a b c d:V,cH n [("defaults",a),("maps",b),("properties",c),("words",d)]=none):cI 461 n F (.ins 461 aV) H=some (F,true):=match D.ex with|⟨_,_,_,_,E⟩=>jX E.go (h _ _ _ _)
theorem kd.sel{lo a3 aV:Nat}{g}(Z:kd lo H a3 aV g)(F:bz){n:Str}(h:∀dd m p w fF,∃ps,vZ dd m p w fF= .aS ps∧cH n ps=none):cI 496 n F (.ins 496 a3) H=some (F,true):=match Z with|⟨dd,m,p,w,fF,_,_,f,_,_,_,_,_⟩=>match h dd m p w fF with|⟨_,e,q⟩=>jX (f.trans (congrArg some e)) q
theorem nY.get(C:nY H l ps lR)(hz:lR≤1000)(ok:∀p∈ps,p.Ok)(af:ca x)(h0:0≤c)(bg:c≤top)(BJ:σ i=some (.ins 461 l))(sb:σ j=some (.str x))(BU:σ k=some (.int c)):b5 (cI 461 "get" hZ) (aa i) [(aa j),(aa k)] σ H=some ((told ps x c).v,H):=by
 obtain⟨lo,N,ms,D,le,r⟩:=C
 exact dM (ae BJ) (D.sel _ fun _ _ _ _=>by kernel_rfl) (ak (ae sb) (ak (ae BU) aJ)) (zH D (Nat.le_trans le hz) r ok af h0 bg)
theorem n3.db(C:n3 H l a3 ps):nY H l ps 60:=match C with|⟨lo,N,ms,_,D,le,r,_,_⟩=>⟨lo,N,ms,D,le,r⟩
theorem n3.get(C:n3 H l a3 ps)(ok:∀p∈ps,p.Ok)(af:ca x)(h0:0≤c)(bg:c≤top)(BJ:σ i=some (.ins 496 a3))(sb:σ j=some (.str x))(BU:σ k=some (.int c)):b5 (cI 496 "get" jC) (aa i) [(aa j),(aa k)] σ H=some ((told ps x c).v,H):=by
 obtain⟨lo,N,ms,dW,D,le,r,F,au⟩:=C
 obtain⟨n,rfl⟩:=Int.eq_ofNat_of_zero_le h0
 obtain⟨w,hw,e⟩:=NR F D af (n:=n) (Nat.lt_add_one_of_le (Int.ofNat_le.mp (show(n:Int)≤((1114111:Nat):Int)from bg)))
 rw[r x] at hw
 obtain rfl:=Option.some.inj (hw.symm.trans (rS x ok h0 bg))
 exact dM (ae BJ) (F.sel _ fun dd m p w fF=>⟨_,rfl,by kernel_rfl⟩) (ak (ae sb) (ak (ae BU) aJ)) e
noncomputable def yU:b9:=(aq (bT 13 (aO qL [(aa 2),(aa 3),(aa 11),(aa 12)])) (aq (bT 14 (dList [(b5 (cI 461 "get" hZ) (aa 6) [(aa 11),(aa 12)]),(b5 (cI 496 "get" jC) (aa 9) [(aa 11),(aa 12)]),(b5 (cI 461 "get" hZ) (aa 4) [(aa 11),(aa 12)]),(b5 (cI 461 "get" hZ) (aa 5) [(aa 11),(aa 12)])])) (aq (b8 (bq .NotEq (aO eZ [(aa 14)]) (aO eZ [(dList [(aa 13),(aa 13),(aO j_ [(aa 2),(aa 11),(aa 12)]),(aO j_ [(aa 3),(aa 11),(aa 12)])])])) (aq (bS (aj (.bool false))) aI) aI) aI)))
theorem R0(af:ca x)(okN:∀p∈near,p.Ok)(eT:∀p∈far,p.Ok)(c:Int):di near far x c∈vals x:=by
 unfold di;split
 ·exact j2 af c eT
 ·exact j2 af c okN
theorem K1{vs:List Val}(af:ca x)(aR:∀v∈vs,v∈vals x)(hz:vs.length≤100){i:Nat}(hi:H[i]?=some (.list (vs.map Val.v))):nK H (.loc i)=some (PyData.list (vs.map fp)).shown:=by
 have s:er (.list (vs.map fp)) 1 ((vs.map fp).length*22):=er.list fun d hd=>by
  obtain⟨v,h,rfl⟩:=List.mem_map.mp hd
  exact er.val af (aR v h)
 have r:ed H 1 (.loc i) (.list (vs.map fp)):=ed.list hi fun v _=>ed.val v
 exact s.repr (by decide) (by rw[List.length_map];exact Nat.le_trans (Nat.mul_le_mul_right 22 hz) (by decide)) (r 8 (by decide))
theorem ne_self{s:Str}:hW .NotEq (.str s) (.str s) H=some false:=congrArg (fun z=>some !z) (beq_self_eq_true s)
theorem SE{I:aN→ao→Prop}{K:Out→Prop}(C:jh H near far ln lf dI dS dN a3)(af:ca x)(h0:0≤c)(bg:c≤top)(S:o6 σ ln lf dI dS dN a3)(fZ:σ 11=some (.str x))(qh:σ 12=some (.int c))(k:∀u v H',Ext H H'→I (upd (upd σ 13 u) 14 v) H'):Run (yU σ H) (ip I K):=by
 have kX:=Nat.le_trans (Nat.le_trans (Nat.le_add_right _ _) C.z) (show 30≤100 by decide)
 have ja:=Nat.le_trans (Nat.le_trans (Nat.le_add_left _ _) C.z) (show 30≤100 by decide)
 refine Eb (c:=c) af C.cb C.fz kX ja C.eT fun H1 bY a6=> ?_
 have u3:=C.ext a6
 have I6:=At C.okN C.eT
 have aR:∀v∈[di near far x c,di near far x c,told near x c,told far x c],v∈vals x:=fun v h=>by
  have a:=R0 af C.okN C.eT c
  rcases h with _|⟨_,_|⟨_,_|⟨_,_|⟨_,h⟩⟩⟩⟩
  ·exact a
  ·exact a
  ·exact j2 af c C.okN
  ·exact j2 af c C.eT
  ·exact nomatch h
 have EK:=u3.bD.db.get (by decide) I6 af h0 bg (σ:=upd σ 13 (di near far x c).v) (i:=6) (j:=11) (k:=12) S.eA fZ qh
 have jM:=u3.bD.get I6 af h0 bg (σ:=upd σ 13 (di near far x c).v) (i:=9) (j:=11) (k:=12) S.mq fZ qh
 rw[Gn C.okN C.eT af h0 bg] at EK jM
 have Pf:=u3.B.get (by decide) C.okN af h0 bg (σ:=upd σ 13 (di near far x c).v) (i:=4) (j:=11) (k:=12) S.s4 fZ qh
 have Ph:=u3.O.get (by decide) C.eT af h0 bg (σ:=upd σ 13 (di near far x c).v) (i:=5) (j:=11) (k:=12) S.s5 fZ qh
 have bj:=a6.trans (.app [aM.list ([di near far x c,di near far x c,told near x c,told far x c].map Val.v)])
 have bl:=K1 (H:=H1++[aM.list ([di near far x c,di near far x c,told near x c,told far x c].map Val.v)]) af aR (show 4≤100 by decide) bP
 have cM:dList _ (upd σ 13 (di near far x c).v) H1=some (.loc H1.length,H1++[aM.list ([di near far x c,di near far x c,told near x c,told far x c].map Val.v)]):=d4 (ak EK (ak jM (ak Pf (ak Ph aJ)))) (show 4≤1000 by decide)
 generalize H1++[aM.list ([di near far x c,di near far x c,told near x c,told far x c].map Val.v)]=aG at*
 have t1:=rc (c:=c) af (bj _ _ C.cb) kX
 have cc:=bj.trans (.app [aM.aS gK])
 generalize aG++[aM.aS gK]=H3 at*
 have gL:=rc (c:=c) af (cc _ _ C.fz) ja
 have dK:=cc.trans (.app [aM.aS gK])
 generalize H3++[aM.aS gK]=cW at*
 have bN:=K1 (H:=cW++[aM.list ([di near far x c,di near far x c,told near x c,told far x c].map Val.v)]) af aR (show 4≤100 by decide) bP
 exact cq (bf (ak (ae S.s2) (ak (ae S.s3) (ak (ae fZ) (ak (ae qh) aJ)))) bY) (cq cM (c6 (bV (bf (ak (ae rfl) aJ) (rf bl)) (bf (ak (d4 (ak (ae rfl) (ak (ae rfl) (ak (bf (ak (ae S.s2) (ak (ae fZ) (ak (ae qh) aJ))) t1) (ak (bf (ak (ae S.s3) (ak (ae fZ) (ak (ae qh) aJ))) gL) aJ)))) (show 4≤1000 by decide)) aJ) (rf bN)) ne_self) (ez (k _ _ _ (dK.trans (.app _))))))
theorem MV{K:Out→Prop}{R:b9}{it:fH}{dR:ao}{mP:Nat}(hit:it σ dR=some (i2 mP,H))(C:jh H near far ln lf dI dS dN a3)(af:ca x){cs:List Int}(aU:∀c∈cs,0≤c∧c≤top)(hz:cs.length≤1000)(bH:H[mP]?=some (.list (cs.map .int)))(S:o6 σ ln lf dI dS dN a3)(fZ:σ 11=some (.str x))
 (k:∀ba H',(∀j,j<12→ba j=σ j)→Ext H H'→Run (R ba H') K):Run (aq (dz it (cx 12) yU) R σ dR) K:=by
 refine fB hit cs.length (Nat.le_trans hz (by decide)) (fun _ ba H'=>(∀j,j<12→ba j=σ j)∧Ext H H') ⟨fun _ _=>rfl, .refl⟩ ?_ (fun ba H' I=>dJ (I.2 _ _ bH) (List.getElem?_eq_none (Nat.le_of_eq (List.length_map _)))) fun ba H' I=>k ba H' I.1 I.2
 rintro i b3 H1 hi ⟨f,a6⟩
 have zQ:cs[i]?=some cs[i]:=List.getElem?_eq_getElem hi
 obtain⟨ob,ha⟩:=aU _ (List.getElem_mem hi)
 generalize cs[i]=c at*
 have g:∀{j:Nat} {v:V},j<12→σ j=some v→b3 j=some v:=fun h e=>(f _ h).trans e
 exact .mk (v:= .int c) (dJ (a6 _ _ bH) (by rw[List.getElem?_map,zQ];rfl)) rfl (SE (σ:=upd b3 12 (.int c)) (C.ext a6) af ob ha ⟨g (by decide) S.s2,g (by decide) S.s3,g (by decide) S.s4,g (by decide) S.s5,g (by decide) S.eA,g (by decide) S.mq⟩ (g (by decide) fZ) rfl fun u v H' jA=>⟨fun j bM=>((if_neg (Nat.ne_of_lt (Nat.lt_trans bM (by decide)))).trans ((if_neg (Nat.ne_of_lt (Nat.lt_trans bM (by decide)))).trans (if_neg (Nat.ne_of_lt bM)))).trans (f j bM),a6.trans jA⟩)
end
section
variable{G H:ao}{near far:List bF}{ln lf dI dS dN a3:Nat}{x:Str}{σ:aN}
theorem WS{q:List eG}{F:Nat}{E:fH}{dR:ao}(fm:E σ dR=some (i2 F,H))(fz:H[F]?=some (.list (q.map cv)))(hz:q.length≤100000):
 ef [] E (cx 1) eY (aO hI [(aa 1)]) σ dR=some (.loc H.length,H++[.list (q.map cv)]):=by
 have:=oh (caps:=[]) (j:=1) (Ti:=eY) (De:=aO hI [(aa 1)]) (as:=q) (F:=cv) (fun _=>true) cv fm (fun i G e=>dJ (e _ _ fz) rfl) rfl (Nat.le_trans hz (by decide)) fun r aZ cJ G e t1 _=>⟨rfl,fun _=>bf (ak (ae t1) aJ) rfl⟩
 rw[zo] at this;exact this
noncomputable def g0(near far:List bF)(x:Str):List eG:=dD (defOf x) (hu near far x)
theorem By(okN:∀p∈near,p.Ok)(eT:∀p∈far,p.Ok)(af:ca x):sO x (g0 near far x):=by
 have h:=xu af (At okN eT)
 rw[Au okN eT af] at h
 exact Bz (JG okN eT x).ch h _
theorem Js(C:jh H near far ln lf dI dS dN a3)(af:ca x):(g0 near far x).length≤130:=
 Nat.le_trans (U6 _ _) (Nat.le_trans (Nat.add_le_add_right (Nat.mul_le_mul_left 2 (Nat.le_trans (JH C.okN C.eT af).2.2.1 (Nat.le_trans (yW C.okN C.eT) (Nat.add_le_add_left (Nat.mul_le_mul_left 2 C.z) 1)))) 1) (by decide))
noncomputable def AS:a0:=b5 (cI 139 "ranges" nU) (b5 (qn (cI 461 "map_of" oW) (cI 496 "map_of" sx)) (aa 1) [(aa 2)]) []
theorem Vt{s t:Sel}{v:V}{r:bz×Bool}(h:s v H=some r):qn s t v H=some r:=by
 show(match s v H with|some r=>some r|none=>t v H)=_
 rw[h]
theorem Vu{s t:Sel}{v:V}{r:bz×Bool}(h:s v H=none)(ax:t v H=some r):qn s t v H=some r:=by
 show(match s v H with|some r=>some r|none=>t v H)=_
 rw[h];exact ax
theorem G_{G:Prop}(C:jh H near far ln lf dI dS dN a3)(af:ca x)(dB:g0 near far x≠[]){v:V}(aR:v= .ins 461 dN∨v= .ins 496 a3)(s1:σ 1=some v)(s2:σ 2=some (.str x))
 (k:∀l H',ef [] (cP AS) (cx 1) eY (aO hI [(aa 1)]) σ H=some (.loc l,H')→H'[l]?=some (.list ((g0 near far x).map cv))→Ext H H'→H.length≤l→G):G:=by
 obtain⟨lo,N,ms,dW,D,ag,ah,F,aE⟩:=C.bD
 have aZ:rowsOf (bO ms x) x=hu near far x:=by rw[ah,Au C.okN C.eT af]
 cases au:cY x ms with
 |none=>
  refine absurd ?_ dB
  unfold g0
  rw[←aZ];unfold bO
  rw[au];exact List.filter_eq_nil_iff.mpr fun r h=>by
   rw[List.mem_singleton.mp h];show¬(!decide (defOf x=defOf x))=true;rw[decide_eq_true rfl];decide
 |some q=>
 obtain⟨l,r⟩:=q
 have z1:r=hu near far x:=by rw[←aZ];unfold bO;rw[au];rfl
 obtain⟨gH,jt⟩:=S9 F D au
 obtain⟨_,a,b,M⟩:=D.at au
 have om:=y_ M.ea (Nat.le_trans M.nn (Nat.le_trans ag (by decide)))
 rw[show dD (defOf x) r=g0 near far x by rw[z1];rfl] at om
 have a6:=Ext.app (H:=H) [aM.list ((dj r).map cv), .list ((g0 near far x).map cv)]
 have g1:(H++[aM.list ((dj r).map cv), .list ((g0 near far x).map cv)])[H.length+1]?=some (.list ((g0 near far x).map cv)):=by
  rw[List.getElem?_append_right (Nat.le_add_right ..),Nat.add_sub_cancel_left];rfl
 generalize H++[aM.list ((dj r).map cv), .list ((g0 near far x).map cv)]=H1 at*
 have hm:b5 (qn (cI 461 "map_of" oW) (cI 496 "map_of" sx)) (aa 1) [(aa 2)] σ H=some (.ins 139 l,H):=by
  rcases aR with rfl|rfl
  ·exact dM (ae s1) (Vt (D.sel _ fun _ _ _ _=>by kernel_rfl)) (ak (ae s2) aJ) gH
  ·exact dM (ae s1) (Vu rfl (F.sel _ fun dd m p w fF=>⟨_,rfl,by kernel_rfl⟩)) (ak (ae s2) aJ) jt
 exact k _ _ (WS (el (dM hm (jX M.ea.o (by kernel_rfl)) aJ om) (fo g1)) g1 (Nat.le_trans (Js C af) (by decide))) bP (a6.trans (.app _)) a6.len
theorem JI{i:Nat}{ls:List Nat}{R:List eG}(af:ca x)(ah:ls.length=2)(hi:H[i]?=some (.list (ls.map V.loc)))(QZ:∀l∈ls,H[l]?=some (.list (R.map cv)))(ok:sO x R)(hz:R.length≤1000):nK H (.loc i)=some (PyData.list (List.replicate 2 (.list (R.map nD)))).shown:=by
 have r:ed H 3 (.loc i) (.list (ls.map fun _=> .list (R.map nD))):=ed.list hi fun l au=>ed.rows (QZ l au)
 rw[List.map_const',ah] at r
 have s:er (.list (List.replicate 2 (.list (R.map nD)))) 3 ((List.replicate 2 (PyData.list (R.map nD))).length*(R.length*67+1)):=er.list fun d hd=>by
  rw[List.eq_of_mem_replicate hd]
  exact er.rows af ok
 exact s.repr (by decide) (by rw[List.length_replicate];exact Nat.le_trans (Nat.mul_le_mul_left 2 (Nat.add_le_add_right (Nat.mul_le_mul_right 67 hz) 1)) (by decide)) (r 8 (by decide))
noncomputable def yM:a0:=ef [(2,11)] (cP (cQ [(aa 6),(aa 9)])) (cx 1) eY (ef [] (cP AS) (cx 1) eY (aO hI [(aa 1)]))
noncomputable def JC:b9:=(aq (bT 14 yM) (aq (b8 (bq .NotEq (aO eZ [(aa 14)]) (aO eZ [(dList [(bG (aa 10) (aa 11)),(bG (aa 10) (aa 11))])])) (aq (bS (aj (.bool false))) aI) aI) aI))
theorem both_rows{G:Prop}(C:jh H near far ln lf dI dS dN a3)(af:ca x)(dB:g0 near far x≠[])(S:o6 σ ln lf dI dS dN a3)(fZ:σ 11=some (.str x))
 (k:∀cr dH H',yM σ H=some (.loc H.length,H')→H'[H.length]?=some (.list [.loc cr, .loc dH])→H'[cr]?=some (.list ((g0 near far x).map cv))→H'[dH]?=some (.list ((g0 near far x).map cv))→Ext H H'→G):G:=by
 have La:=Ext.app (H:=H) [aM.list []]
 have ga:=bP (H:=H) (m:= .list [])
 have la:=ew ga
 obtain⟨f,hf⟩:∃f,kx=f+1+1+1:=⟨kx - 3,rfl⟩
 have D7:yM σ H=(jm (nt [.ins 461 dN, .ins 496 a3]) (cx 1) eY (ef [] (cP AS) (cx 1) eY (aO hI [(aa 1)])) H.length (f+1+1+1) 0 (hF [(2,11)] σ) (H++[.list []])).map fun H'=>(.loc H.length,H'):=by
  rw[←hf]
  exact bi (el (et (ak (ae S.eA) (ak (ae S.mq) aJ)) (show 2≤1000 by decide)) rfl) (if_pos (by show((σ 11).isSome&&true)=true;rw[fZ];rfl))
 generalize H++[aM.list []]=XW at*
 refine G_ (σ:=upd (hF [(2,11)] σ) 1 (.ins 461 dN)) (C.ext La) af dB (.inl rfl) rfl fZ fun cr H1 bY g1 a6 dn=> ?_
 have ha:=s9 (f:=f+1+1) (T:=cx 1) (Ti:=eY) (i:=0) (cJ:=hF [(2,11)] σ) (nx:=nt [.ins 461 dN, .ins 496 a3]) rfl rfl rfl bY (a6 _ _ ga) (Nat.zero_le _)
 have Lb:=(La.trans a6).nG (l:=H.length) (m:= .list [.loc cr]) (Nat.le_refl _)
 have fK:=fQ (m:= .list [.loc cr]) (a6 _ _ ga)
 have cZ:=Nat.ne_of_lt (Nat.lt_of_lt_of_le la dn)
 have g1:=(List.getElem?_set_ne (a:= .list [.loc cr]) cZ).trans g1
 have a4:H.length<(H1.set H.length (.list [.loc cr])).length:=by rw[List.length_set];exact Nat.lt_of_lt_of_le la a6.len
 have ha:_=jm _ _ _ _ _ _ _ _ (H1.set H.length (.list [.loc cr])):=ha
 generalize H1.set H.length (.list [.loc cr])=XX at*
 refine G_ (σ:=upd (upd (hF [(2,11)] σ) 1 (.ins 461 dN)) 1 (.ins 496 a3)) (C.ext Lb) af dB (.inr rfl) rfl fZ fun dH aG cM g2 bj dU=> ?_
 have fa:=s9 (f:=f+1) (T:=cx 1) (Ti:=eY) (i:=1) (cJ:=upd (hF [(2,11)] σ) 1 (.ins 461 dN)) (nx:=nt [.ins 461 dN, .ins 496 a3]) rfl rfl rfl cM (bj _ _ fK) (show 1≤1000000 by decide)
 rw[ha,fa,yP rfl] at D7
 exact k cr dH _ D7 (fQ (bj _ _ fK)) ((List.getElem?_set_ne cZ).trans (bj _ _ g1)) ((List.getElem?_set_ne (Nat.ne_of_lt (Nat.lt_of_lt_of_le a4 dU))).trans g2) ((Lb.trans bj).nG (Nat.le_refl _))
end
section
variable{G H:ao}{near far:List bF}{ln lf dI dS dN a3:Nat}{x:Str}{σ:aN}
theorem Vc{bD:Out→Prop}(C:jh H near far ln lf dI dS dN a3)(af:ca x)(dB:g0 near far x≠[]){eh L:Nat}{ps:List (Str×V)}(ib:H[eh]?=some (.aS ps))(bH:cH x ps=some (.loc L))(jq:H[L]?=some (.list ((g0 near far x).map cv)))
 (S:o6 σ ln lf dI dS dN a3) (mo:σ 10=some (.loc eh)) (fZ:σ 11=some (.str x)) (k:∀v H',Ext H H'→bD (.next,upd σ 14 v,H')):Run (JC σ H) bD:=by
 refine both_rows C af dB S fZ fun cr dH H1 bY g1 ag ah a6=> ?_
 have oU:=Nat.le_trans (Js C af) (show 130≤1000 by decide)
 have ok:=By C.okN C.eT af
 have bl:=JI (ls:=[cr,dH]) af rfl g1 (fun l au=>(List.mem_cons.mp au).elim (fun e=>e▸ag) fun h=>List.mem_singleton.mp h▸ah) ok oU
 have bj:=a6.trans (.app [aM.list [.loc L, .loc L]])
 have bN:=JI (ls:=[L,L]) (H:=H1++[aM.list [.loc L, .loc L]]) af rfl bP (fun l au=>(List.mem_cons.mp au).elim (fun e=>e▸bj _ _ jq) fun h=>List.mem_singleton.mp h▸bj _ _ jq) ok oU
 have JO:=gw (a6 _ _ ib) bH
 exact cq bY (c6 (bV (bf (ak (ae rfl) aJ) (rf bl)) (bf (ak (d4 (ak (cm (ae mo) (ae fZ) JO) (ak (cm (ae mo) (ae fZ) JO) aJ)) (show 2≤1000 by decide)) aJ) (rf bN)) ne_self) ⟨_,rfl,k _ _ bj⟩)
noncomputable def Cn:b9:=(aq (gA (aa 10) (aa 11) (aO sG [(aa 2),(aa 3),(aa 11)])) (aq (dz (cP (aO oZ [(ef [(2,11)] (cP (bI .Add (aa 2) (aa 3))) (cx 1) (bq .Eq (bG (aa 1) (aj (.int 0))) (aa 2)) (aa 1))])) (cx 12) yU) (aq (b8 (bq .NotEq (bG (aa 10) (aa 11)) (dList [])) JC aI) aI)))
theorem Ext.xY{H':ao}{eh:Nat}(x:Ext G H)(h:G.length≤eh)(y:dZ eh H H'):Ext G H':=fun j m q=>y j m (Nat.ne_of_lt (Nat.lt_of_lt_of_le (ew q) h)) (x j m q)
theorem GQ{I:aN→ao→Prop}{K:Out→Prop}(C:jh G near far ln lf dI dS dN a3)(x0:Ext G H)(af:ca x){eh:Nat}{ps:List (Str×V)}(ib:H[eh]?=some (.aS ps))(m9:G.length≤eh)(kD:ps.length≤10)
 (S:o6 σ ln lf dI dS dN a3) (mo:σ 10=some (.loc eh)) (fZ:σ 11=some (.str x)) (k:∀ba H' L,(∀j,j<12→ba j=σ j)→dZ eh H H'→H'[eh]?=some (.aS (b0 x (.loc L) ps))→H'[L]?=some (.list ((g0 near far x).map cv))→H.length≤L→I ba H'):Run (Cn σ H) (ip I K):=by
 have z:=C.z
 refine NX af C.okN C.eT (x0 _ _ C.cb) (x0 _ _ C.fz) z fun L H1 bY g1 cr a6=> ?_
 have AZ:=Nat.ne_of_lt (Nat.lt_of_lt_of_le (ew ib) cr)
 refine jW (bf (ak (ae S.s2) (ak (ae S.s3) (ak (ae fZ) aJ))) bY) (ae mo) (ae fZ) (qC (a6 _ _ ib) (Nat.le_trans kD (by decide))) ?_
 have bj:=a6.oR.trans (dZ.set (l:=eh) (m:= .aS (b0 x (.loc L) ps)))
 have pG:=fQ (m:= .aS (b0 x (.loc L) ps)) (a6 _ _ ib)
 have wd:=(List.getElem?_set_ne (a:= .aS (b0 x (.loc L) ps)) AZ).trans g1
 generalize H1.set eh (.aS (b0 x (.loc L) ps))=aG at*
 have u4:=C.ext (x0.xY m9 bj)
 have fJ:=D' (x:=x) (σ:=σ) fZ S.s2 S.s3 u4.cb u4.fz (Nat.le_trans z (by decide))
 have ok:=qc C.okN C.eT x
 have hn:((near++far).filter fun p=>decide (p.w=x)).length≤30:=Nat.le_trans (List.length_filter_le ..) (by rw[List.length_append];exact z)
 have nP:=Nat.le_trans (yW (x:=x) C.okN C.eT) (Nat.add_le_add_left (Nat.mul_le_mul_left 2 z) 1)
 have aU:∀c∈dy near far x,0≤c∧c≤top:=fun c aU=>by
  have:=(kp ok).mp aU
  exact⟨(kJ ok).2.1 c this.1,this.2⟩
 have on:dy near far x=cutsOf ((near++far).filter fun p=>decide (p.w=x)):=rfl
 rw[on] at nP aU
 have cc:=Ext.app (H:=aG) [aM.list ((near++far).map bF.V), .list (((near++far).filter fun p=>decide (p.w=x)).map bF.V)]
 have g3:(aG++[aM.list ((near++far).map bF.V), .list (((near++far).filter fun p=>decide (p.w=x)).map bF.V)])[aG.length+1]?=some (.list (((near++far).filter fun p=>decide (p.w=x)).map bF.V)):=by
  rw[List.getElem?_append_right (Nat.le_add_right ..),Nat.add_sub_cancel_left];rfl
 generalize aG++[aM.list ((near++far).map bF.V), .list (((near++far).filter fun p=>decide (p.w=x)).map bF.V)]=H3 at*
 generalize (near++far).filter (fun p=>decide (p.w=x))=qs at*
 have ll:=y8 g3 ok hn
 have dK:=cc.trans (.app [aM.eI ((dV qs).map gN), .list ((sortI (dV qs)).map .int), .list ((cutsOf qs).map .int)])
 have fy:(H3++[aM.eI ((dV qs).map gN), .list ((sortI (dV qs)).map .int), .list ((cutsOf qs).map .int)])[H3.length+2]?=some (.list ((cutsOf qs).map .int)):=by
  rw[List.getElem?_append_right (Nat.le_add_right ..),Nat.add_sub_cancel_left];rfl
 generalize H3++[aM.eI ((dV qs).map gN), .list ((sortI (dV qs)).map .int), .list ((cutsOf qs).map .int)]=cW at*
 refine MV (el (bf (ak fJ aJ) ll) (fo fy)) (u4.ext dK) af aU (Nat.le_trans nP (by decide)) fy S fZ fun x5 fj g' gg=> ?_
 have gg:=dK.trans gg
 have qF:=bj.trans gg.oR
 have iT:=gg _ _ pG
 have gU:∀{j:Nat} {v:V},j<12→σ j=some v→x5 j=some v:=fun h e=>(g' _ h).trans e
 have FN:cH x (b0 x (V.loc L) ps)=some (.loc L):=by rw[qi,if_pos rfl]
 have eV:=gg.trans (.app [aM.list []])
 have tp:=eq_nil af (eV _ _ wd) (bP (H:=fj)) (By C.okN C.eT af)
 have oH:(bq .NotEq (bG (aa 10) (aa 11)) (dList [])) x5 fj=some (!decide (g0 near far x=[]),fj++[aM.list []]):=bV (cm (ae (gU (by decide) mo)) (ae (gU (by decide) fZ)) (gw iT FN)) (d4 aJ (Nat.zero_le _)) (congrArg (Option.map not) tp)
 by_cases dB:g0 near far x=[]
 ·rw[decide_eq_true dB] at oH
  exact c6 oH (ez (k _ _ L g' (bj.trans eV.oR) (eV _ _ pG) (eV _ _ wd) cr))
 ·rw[decide_eq_false dB] at oH
  exact fs oH (Vc ((u4.ext eV)) af dB (eV _ _ pG) FN (eV _ _ wd) ⟨gU (by decide) S.s2,gU (by decide) S.s3,gU (by decide) S.s4,gU (by decide) S.s5,gU (by decide) S.eA,gU (by decide) S.mq⟩ (gU (by decide) mo) (gU (by decide) fZ) fun v jF kW=>ez (k _ _ L (fun j bM=>(if_neg (Nat.ne_of_lt (Nat.lt_trans bM (by decide)))).trans (g' j bM)) (bj.trans (eV.trans kW).oR) (kW _ _ (eV _ _ pG)) (kW _ _ (eV _ _ wd)) cr))
end
inductive qQ(near far:List bF)(H:ao)(ps:List (Str×V))(x:Str):Prop
 |mk (L:Nat) (e:cH x ps=some (.loc L)) (g:H[L]?=some (.list ((g0 near far x).map cv)))
inductive Mq(near far:List bF)(eh:Nat)(H:ao)(σ:aN)(i:Nat)(ba:aN)(H':ao):Prop
 |mk (a:∀j,j<11→ba j=σ j) (x:dZ eh H H') (ps:List (Str×V)) (g:H'[eh]?=some (.aS ps)) (z:ps.length≤i) (c1:0<i→qQ near far H' ps "sc") (dE:1<i→qQ near far H' ps "ccc")
section
variable{G H:ao}{near far:List bF}{ln lf dI dS dN a3:Nat}{x:Str}{σ:aN}
theorem Xv{R:b9}{K:Out→Prop}(C:jh G near far ln lf dI dS dN a3)(x0:Ext G H){eh:Nat}(ib:H[eh]?=some (.aS []))(m9:G.length≤eh)(S:o6 σ ln lf dI dS dN a3)(mo:σ 10=some (.loc eh))
 (k:∀ba H' ps,(∀j,j<11→ba j=σ j)→Ext G H'→H'[eh]?=some (.aS ps)→qQ near far H' ps "sc"→qQ near far H' ps "ccc"→Run (R ba H') K):Run (aq (dz (cP (cQ [(aj (.str "sc")),(aj (.str "ccc"))])) (cx 11) Cn) R σ H) K:=by
 refine fB (el (et (ak aF (ak aF aJ)) (show 2≤1000 by decide)) rfl) 2 (by decide) (Mq near far eh H σ) ⟨fun _ _=>rfl,fun _ _ _ h=>h,[],ib,Nat.le_refl _,fun h=>absurd h (Nat.lt_irrefl 0),fun h=>absurd h (Nat.not_lt_zero 1)⟩ ?_ (fun _ _ _=>rfl) fun ba H' ⟨a,x,ps,g,_,c1,dE⟩=>k ba H' ps a (x0.xY m9 x) g (c1 (by decide)) (dE (by decide))
 rintro i b3 H1 hi ⟨a,a6,ps,g,z,c1,dE⟩
 have gU:∀{j:Nat} {v:V},j<11→σ j=some v→b3 j=some v:=fun h e=>(a _ h).trans e
 have pb:∀u,o6 (upd b3 11 u) ln lf dI dS dN a3:=fun u=>⟨gU (by decide) S.s2,gU (by decide) S.s3,gU (by decide) S.s4,gU (by decide) S.s5,gU (by decide) S.eA,gU (by decide) S.mq⟩
 have Kp:=gU (by decide) mo
 have Du:∀{ba:aN} {u:V},(∀j,j<12→ba j=upd b3 11 u j)→∀j,j<11→ba j=σ j:=fun h j bM=>(h j (Nat.lt_trans bM (by decide))).trans ((if_neg (Nat.ne_of_lt bM)).trans (a j bM))
 have Jw:∀{x:Str} {L:Nat},cH x (b0 x (V.loc L) ps)=some (.loc L):=fun{x L}=>by rw[qi,if_pos rfl]
 obtain _|_|i:=i
 ·exact .mk (v:= .str "sc") rfl rfl (GQ (σ:=upd b3 11 (.str "sc")) C (x0.xY m9 a6) (.inl rfl) g m9 (Nat.le_trans z (by decide)) (pb _) Kp rfl fun ba H' L cp y lq jq Sy=>⟨Du cp,a6.trans y,_,lq,Nat.le_trans (l7 ..) (Nat.succ_le_succ z),fun _=>⟨L,Jw,jq⟩,fun h=>absurd h (Nat.lt_irrefl 1)⟩)
 ·obtain⟨qM,ak,g1⟩:=c1 (by decide)
  exact .mk (v:= .str "ccc") rfl rfl (GQ (σ:=upd b3 11 (.str "ccc")) C (x0.xY m9 a6) (.inr rfl) g m9 (Nat.le_trans z (by decide)) (pb _) Kp rfl fun ba H' L cp y lq jq Sy=>⟨Du cp,a6.trans y,_,lq,Nat.le_trans (l7 ..) (Nat.succ_le_succ z),fun _=>⟨qM,by rw[qi,if_neg (by decide+kernel)];exact ak,y _ _ (d5 g1 g fun e=>nomatch e) g1⟩,fun _=>⟨L,Jw,jq⟩⟩)
 ·exact absurd hi (Nat.not_lt.mpr (Nat.le_add_left 2 i))
noncomputable def pK:List V:=[.str "Cn", .str "Cn", .none]
theorem E_{i:Nat}(hi:H[i]?=some (.list pK)):nK H (.loc i)=some (PyData.list [.str "Cn", .str "Cn", .none]).shown:=bi (qu hi) (if_pos (by decide+kernel))
theorem E9{lo N aV:Nat}{ms:cG}{pr a_}(D:Dat lo N H aV ms pr a_)(af:¬ca x):bO ms x=none:=by
 unfold bO
 cases h:cY x ms with
 |none=>rfl
 |some p=>exact(af (D.at (l:=p.1) (r:=p.2) h).1).elim
theorem PF(C:jh H near far ln lf dI dS dN a3)(eA:σ 6=some (.ins 461 dN))(mq:σ 9=some (.ins 496 a3)):
 (bq .NotEq (aO eZ [(dList [(b5 (cI 461 "get" hZ) (aa 6) [(aj (.str "gc")),(aj (.int 5))]),(b5 (cI 496 "get" jC) (aa 9) [(aj (.str "gc")),(aj (.int 5))]),(b5 (cI 496 "get" jC) (aa 9) [(aj (.str "yy")),(aj (.int 5))])])]) (aO eZ [(dList [(aj (.str "Cn")),(aj (.str "Cn")),(aj .none)])])) σ H=some (false,H++[.list pK]++[.list pK]):=by
 obtain⟨lo,N,ms,dW,D,ag,ah,F,aE⟩:=C.bD
 have cZ:bO ms "gc"=none:=E9 D fun h=>h.elim (fun e=>absurd e (by decide+kernel)) fun e=>absurd e (by decide+kernel)
 have c':bO ms "yy"=none:=E9 D fun h=>h.elim (fun e=>absurd e (by decide+kernel)) fun e=>absurd e (by decide+kernel)
 have v1:(cH "gc" jo).getD .none= .str "Cn":=by kernel_rfl
 have v2:(cH "yy" jo).getD .none= .none:=by kernel_rfl
 have t1:=Nm D cZ 5
 have gL:=zv F D cZ 5
 have t3:=zv F D c' 5
 rw[v1] at t1 gL
 rw[v2] at t3
 have bX:=F.sel jC (n:="get") fun dd m p w fF=>⟨_,rfl,by kernel_rfl⟩
 exact bV (bf (ak (d4 (ak (dM (ae eA) (D.sel _ fun _ _ _ _=>by kernel_rfl) (ak aF (ak aF aJ)) t1) (ak (dM (ae mq) bX (ak aF (ak aF aJ)) gL) (ak (dM (ae mq) bX (ak aF (ak aF aJ)) t3) aJ))) (show 3≤1000 by decide)) aJ) (rf (E_ bP))) (bf (ak (d4 (ak aF (ak aF (ak aF aJ))) (show 3≤1000 by decide)) aJ) (rf (E_ bP))) ne_self
noncomputable abbrev Lo(a4 ar:Nat):Prop:=1≤a4∧1≤ar∧a4+ar≤16∧2^a4≤1000∧2^ar≤1000∧1114112 / 2^(a4+ar)≤100000
noncomputable def DB:V:= .tup [(.tup [.int 6, .int 5]),(.tup [.int 7, .int 6]),(.tup [.int 8, .int 8]),(.tup [.int 4, .int 9])]
theorem MM{r:Int}(h0:0≤r)(ag:r<4):∃a4 ar:Nat,f5 DB (.int r) H=some (.tup [.int a4, .int ar])∧Lo a4 ar:=by
 obtain⟨n,rfl⟩:=Int.eq_ofNat_of_zero_le h0
 obtain _|_|_|_|n:=n
 ·exact⟨6,5,oS (i:=0) rfl (by decide),by decide⟩
 ·exact⟨7,6,oS (i:=1) rfl (by decide),by decide⟩
 ·exact⟨8,8,oS (i:=2) rfl (by decide),by decide⟩
 ·exact⟨4,9,oS (i:=3) rfl (by decide),by decide⟩
 ·exact absurd (Int.ofNat_lt.mp ag) (Nat.not_lt.mpr (Nat.le_add_left 4 n))
theorem RY{lo1 vi nr vj cr dH:Nat}{mb kK:cG}{H1 aG:ao}{nv j5 Ur Xs}(B:Dat lo1 vi H1 cr mb nv j5)(dh:∀z,bO mb z=made near z)(O:Dat nr vj aG dH kK Ur Xs)(lw:∀z,bO kK z=made far z)(ag:1≤vi)(ah:1≤vj):(iX near far).length≤2*vi+2*vj:=by
 have a:=uA B dh ag (dl mb) fun x af=>(oP af).1
 have b:=uA O lw ah (dl kK) fun x af=>(oP af).1
 rw[xk dh] at a
 rw[xk lw] at b
 unfold iX
 rw[List.length_append]
 exact Nat.add_le_add (Nat.le_trans a (Nat.mul_le_mul_right vi nH)) (Nat.le_trans b (Nat.mul_le_mul_right vj nH))
end
noncomputable def Kw:b9:=(aq (b8 (bq .NotEq (aO eZ [(dList [(b5 (cI 461 "get" hZ) (aa 6) [(aj (.str "gc")),(aj (.int 5))]),(b5 (cI 496 "get" jC) (aa 9) [(aj (.str "gc")),(aj (.int 5))]),(b5 (cI 496 "get" jC) (aa 9) [(aj (.str "yy")),(aj (.int 5))])])]) (aO eZ [(dList [(aj (.str "Cn")),(aj (.str "Cn")),(aj .none)])])) (aq (bS (aj (.bool false))) aI) aI) (aq (bS (gz false [aO u_ [(aa 6),(aa 10)],(aO sH [(aa 4),(aa 5),(aa 2),(aO je [(aa 1),(aj (.int 5))])])])) aI))
noncomputable def Hb:b9:=(aq (pv [7,8] (bG (aj DB) (aO je [(aa 1),(aj (.int 4))]))) (aq (bT 9 (aO sD [(aa 6),(aa 7),(aa 8)])) (aq (bT 10 (kq (.aS []))) (aq (dz (cP (cQ [(aj (.str "sc")),(aj (.str "ccc"))])) (cx 11) Cn) Kw))))
theorem MO(ad:Addr)(ns:List Int):CB ad ns=(aq (bT 1 (aO (sF ad ns) [(aa 0)])) (aq (bT 2 (aO o1 [(aa 1),(bI .Add (aj (.int 1)) (aO je [(aa 1),(aj (.int 3))]))])) (aq (bT 3 (aO o1 [(aa 1),(aO je [(aa 1),(aj (.int 3))])])) (aq (kt [4,5] (cQ [(aO o0 [(aa 2)]),(aO o0 [(aa 3)])])) (aq (bT 6 (aO sE [(aa 4),(aa 5)])) Hb))))):=rfl
structure o8(n:Nat)(H:ao)(near far:List bF)(ln lf dI dS dN lo1 nr rM:Nat)(mb kK md:cG)(dd m p w:Nat):Prop where
 okN:∀p∈near,p.Ok
 eT:∀p∈far,p.Ok
 oT:near.length≤3
 sr:far.length≤2
 cb:H[ln]?=some (.list (near.map bF.V))
 fz:H[lf]?=some (.list (far.map bF.V))
 Dv:n≤ln
 vE:n≤lf
 B:fw lo1 (1+2*near.length) H dI mb [] [] dd m p w
 O:Dat nr (1+2*far.length) H dS kK [] []
 bD:Dat rM (1+2*(iX near far).length) H dN md [] []
 dh:∀z,bO mb z=made near z
 lw:∀z,bO kK z=made far z
 tD:∀z,bO md z=made (iX near far) z
 dC:p<nr
 dE:w<nr
 cZ:n≤lo1
 c':n≤nr
 eS:n≤rM
section
variable{H H':ao}{near far:List bF}{ln lf dI dS dN n dk lo lo1 nr rM:Nat}{mb kK md:cG}{dd m p w:Nat}{σ:aN}
theorem h4.keep(x:h4 n H H')(h:n≤lo):kg lo H.length H H':=fun _ hi au=>(x _ _ (Nat.le_trans h hi) (List.getElem?_eq_getElem au)).trans (List.getElem?_eq_getElem au).symm
theorem Dat.low{N aV:Nat}{ms:cG}{pr a_}(D:Dat lo N H aV ms pr a_):lo≤H.length:=match D.ex with|⟨_,_,_,_,E⟩=>Nat.le_of_lt (Nat.lt_of_le_of_lt E.jJ (ew E.go))
variable(M:o8 n H near far ln lf dI dS dN lo1 nr rM mb kK md dd m p w)
include M
theorem o8.As:1+2*(iX near far).length≤49:=
 Nat.add_le_add_left (Nat.mul_le_mul_left 2 (Nat.le_trans (RY M.B.dat M.dh M.O M.lw (Nat.le_add_right _ _) (Nat.le_add_right _ _)) (Nat.add_le_add (Nat.mul_le_mul_left 2 (Nat.add_le_add_left (Nat.mul_le_mul_left 2 M.oT) 1)) (Nat.mul_le_mul_left 2 (Nat.add_le_add_left (Nat.mul_le_mul_left 2 M.sr) 1))))) 1
theorem o8.keep(x:h4 n H H'):o8 n H' near far ln lf dI dS dN lo1 nr rM mb kK md dd m p w:=
 ⟨M.okN,M.eT,M.oT,M.sr,x _ _ M.Dv M.cb,x _ _ M.vE M.fz,M.Dv,M.vE,M.B.keep (x.keep M.cZ),M.O.keep (x.keep M.c'),M.bD.keep (x.keep M.eS),M.dh,M.lw,M.tD,M.dC,M.dE,M.cZ,M.c',M.eS⟩
theorem o8.le:n≤H.length:=Nat.le_trans M.eS M.bD.low
theorem o8.SG{a3 dW:Nat}(F:kd dW H a3 dN (bO md))(au:rM≤dW):jh H near far ln lf dI dS dN a3:=
 have z:=Nat.add_le_add M.oT M.sr
 have t6:=M.As
 have f:∀{n},n≤3→1+2*n≤400:=fun h=>Nat.le_trans (Nat.add_le_add_left (Nat.mul_le_mul_left 2 h) 1) (by decide)
 ⟨M.okN,M.eT,Nat.le_trans z (by decide),Nat.le_trans (Nat.le_trans (Nat.le_mul_of_pos_left _ (by decide)) (Nat.le_trans (Nat.le_add_left _ 1) t6)) (by decide),M.cb,M.fz,⟨_,_,_,M.B.dat,f M.oT,M.dh⟩,⟨_,_,_,M.O,f (Nat.le_succ_of_le M.sr),M.lw⟩,⟨_,_,_,_,M.bD,Nat.le_trans t6 (by decide),M.tD,F,au⟩⟩
theorem WG{bD:Out→Prop}{a3:Nat}(C:jh H near far ln lf dI dS dN a3)(D:h1 n H dk){eh:Nat}{ps:List (Str×V)}(ib:H[eh]?=some (.aS ps))(ws:qQ near far H ps "sc")(Cm:qQ near far H ps "ccc")
 (s1:σ 1=some (.loc dk)) (s2:σ 2=some (.loc ln)) (s4:σ 4=some (.ins 461 dI)) (s5:σ 5=some (.ins 461 dS)) (eA:σ 6=some (.ins 461 dN)) (mq:σ 9=some (.ins 496 a3)) (mo:σ 10=some (.loc eh)) (k:∀H',bD (.ret (.bool true),σ,H')):Run (Kw σ H) bD:=by
 have bY:=PF C eA mq
 have a6:=(Ext.app (H:=H) [aM.list pK]).trans (.app [aM.list pK])
 generalize H++[aM.list pK]++[aM.list pK]=H1 at*
 have h6:=M.keep a6.toN
 have dY:=D.ext a6
 have t6:=h6.As
 obtain⟨yn,av,fL⟩:=ws
 obtain⟨mP,NC,iD⟩:=Cm
 have aZ:∀x,ca x→dD (defOf x) (rowsOf (bO md x) x)=g0 near far x:=fun x af=>by rw[M.tD,Au M.okN M.eT af];rfl
 refine NP h6.bD (Nat.le_trans t6 (by decide)) (fun x af r h=>by rw[aZ x af] at h;exact(By M.okN M.eT af r h).v) (fun x=>Nat.le_trans (BA h6.bD x) (Nat.le_trans (Nat.succ_le_succ t6) (by decide))) (a6 _ _ ib) NC av (by rw[aZ _ (.inr rfl)];exact a6 _ _ iD) (by rw[aZ _ (.inl rfl)];exact a6 _ _ fL) fun aG cM bj=> ?_
 have M2:=h6.keep bj.toN
 refine ol (dY.ext bj) M2.le (k:=5) (by decide) fun r H3 eE iH nz lP eg cc=> ?_
 obtain⟨way,rfl⟩:=Int.eq_ofNat_of_zero_le iH
 have mR:=M2.keep cc
 refine Oh mR.B mR.O (Nat.le_trans (Nat.add_le_add_left (Nat.mul_le_mul_left 2 mR.oT) 1) (by decide)) mR.dh mR.okN (Nat.le_trans mR.oT (by decide)) mR.cb (Int.ofNat_lt.mp nz) mR.dC mR.dE fun cW fY=> ?_
 exact c6 bY (cN (tl (b:=false) (bf (ak (ae eA) (ak (ae mo) aJ)) cM) (bf (ak (ae s4) (ak (ae s5) (ak (ae s2) (ak (bf (ak (ae s1) (ak aF aJ)) eE) aJ)))) fY)) (k cW))
theorem Tc{bD:Out→Prop}(D:h1 n H dk)(s1:σ 1=some (.loc dk))(s2:σ 2=some (.loc ln))(s3:σ 3=some (.loc lf))(s4:σ 4=some (.ins 461 dI))(s5:σ 5=some (.ins 461 dS))(eA:σ 6=some (.ins 461 dN))(k:∀ba H',bD (.ret (.bool true),ba,H')):Run (Hb σ H) bD:=by
 refine ol D M.le (k:=4) (by decide) fun r H1 bY iH i7 dY cr a6=> ?_
 have h6:=M.keep a6
 obtain⟨a4,ar,aR,dn,dU,pk,oa,MD,ME⟩:=MM (H:=H1) iH i7
 refine NQ h6.bD (Nat.le_trans h6.As (by decide)) dn dU pk oa MD ME fun a3 aG cM eO bj=> ?_
 have M2:=h6.keep bj.toN
 have C:=M2.SG eO h6.bD.low
 refine xn (cm aF (bf (ak (ae s1) (ak aF aJ)) bY) aR) rfl (cq (bf (ak (ae eA) (ak (ae rfl) (ak (ae rfl) aJ))) cM) (cq (v:= .loc aG.length) (H1:=aG++[.aS []]) rfl (Xv C (.app _) bP (Nat.le_refl _) ⟨s2,s3,s4,s5,eA,rfl⟩ rfl fun ba H3 ps a cc g ws Cm=> ?_)))
 exact WG (M2.keep cc.toN) (C.ext cc) ((dY.ext bj).ext cc) g ws Cm ((a 1 (by decide)).trans s1) ((a 2 (by decide)).trans s2) ((a 4 (by decide)).trans s4) ((a 5 (by decide)).trans s5) ((a 6 (by decide)).trans eA) ((a 9 (by decide)).trans rfl) ((a 10 (by decide)).trans rfl) (k ba)
end
theorem Lr(ad:Addr)(ns:List Int):∃H',u9 ad ns [.st (.ref ad)] []=some (.bool true,H'):=by
 refine NM (H:=[]) ad ns fun dk H1 bY LE=> ?_
 refine ol LE (Nat.le_refl _) (k:=3) (by decide) fun r aG cM iH fq LF dH bj=> ?_
 obtain⟨m,rfl⟩:=Int.eq_ofNat_of_zero_le iH
 have rP:=Int.ofNat_lt.mp fq
 refine Eh LF dH (many:=1+m) (Nat.le_trans (Nat.add_le_add_left (Nat.le_of_lt rP) 1) (by decide)) fun H3 near eE oT okN EL LG cc=> ?_
 have eg:=Nat.le_of_lt (Nat.lt_of_le_of_lt dH (ew EL))
 refine ol LG eg (k:=3) (by decide) fun r cW fY US UT LH gG dK=> ?_
 obtain⟨m',rfl⟩:=Int.eq_ofNat_of_zero_le US
 have G4:=Int.ofNat_lt.mp UT
 have me:=Nat.le_trans eg gG
 refine Eh LH me (many:=m') (Nat.le_trans (Nat.le_of_lt G4) (by decide)) fun fj far oH sr eT jM LI gg=> ?_
 have w5:=Nat.le_of_lt (Nat.lt_of_le_of_lt me (ew jM))
 have Cu:near.length≤3:=by rw[oT,Nat.add_comm];exact rP
 have Ct:far.length≤2:=by rw[sr];exact Nat.le_of_lt_succ G4
 have EM:=(dK.trans gg) _ _ dH EL
 refine Ec EM okN (Nat.le_trans Cu (by decide)) fun d0 w4 oI Cx dh eV=> ?_
 refine Ec (eV _ _ jM) eT (Nat.le_trans Ct (by decide)) fun jF gW UL CJ lw kW=> ?_
 refine NK (Cx.keep kW.keep) dh okN CJ lw eT (Nat.le_trans Cu (by decide)) (Nat.le_trans Ct (by decide)) fun n0 Th UM LD tD j7=> ?_
 obtain⟨dd,AY,p,w,E⟩:=Cx.open
 have Hk:=Nat.le_trans w5 eV.len
 have M:o8 H1.length n0 near far aG.length cW.length fj.length d0.length jF.length fj.length d0.length jF.length w4 gW Th dd AY p w:=
  ⟨okN,eT,Cu,Ct,(eV.trans (kW.trans j7)) _ _ EM,(eV.trans (kW.trans j7)) _ _ jM,dH,me,E.keep (kW.trans j7).keep,CJ.keep j7.keep,LD,dh,lw,tD,ew E.E.hj,ew E.E.gm,w5,Hk,Nat.le_trans Hk kW.len⟩
 obtain⟨_,e,H',rfl⟩:Run (u9 ad ns [.st (.ref ad)] []) fun p=>∃H',p=(.bool true,H'):=by
  unfold u9
  rw[MO]
  exact cu (cq (bf (ak (ae rfl) aJ) bY) (cq (bf (ak (ae rfl) (ak (cT aF (bf (ak (ae rfl) (ak aF aJ)) cM) (sX rfl)) aJ)) eE) (cq (bf (ak (ae rfl) (ak (bf (ak (ae rfl) (ak aF aJ)) fY) aJ)) oH) (qf (et (ak (bf (ak (ae rfl) aJ) oI) (ak (bf (ak (ae rfl) aJ) UL) aJ)) (show 2≤1000 by decide)) rfl (cq (bf (ak (ae rfl) (ak (ae rfl) aJ)) UM) (Tc M (LI.ext (eV.trans (kW.trans j7))) rfl rfl rfl rfl rfl rfl fun ba H'=>⟨H',rfl⟩)))))) rfl
 exact⟨H',e⟩
theorem Tb{K:Frag}{h:Heap}{ce:Str→Option Value}(X:K.In h)(g:h.Ns 3 ce)(aY:(K.lookup 3).isSome=true):∀x,ce x=ud K x:=by
 intro x
 obtain⟨o,aT⟩:=Option.isSome_iff_exists.mp aY
 obtain⟨cF,av,ep,ag,ah,aE,a7⟩:=g
 have:=X 3 o aT
 rw[this] at ag;cases ag
 obtain⟨r6,nu,Yh,ut⟩:=o
 dsimp only at ah
 subst ah
 unfold ud
 rw[aT]
 exact(a7 x).symm
theorem RP{vs:List Value}{ns:List Int}(jO:IntsAre vs ns)(h:Heap)(J:List Addr):bL h J (ns.map .int) vs:=by
 induction jO with
 |nil=>exact .kO
 |cons n t _ aK=>exact .ai .mkInt aK
noncomputable def l8:DefRec×List (Str×Expr):=(PySem.W.defOf qv "law").get (by kernel_rfl)
theorem PU:PySem.W.defOf qv "law"=some (l8.1,l8.2):=by kernel_rfl
theorem PW:pw.theDef "law"=some (l8.1.params,l8.1.body,l8.1.scope):=by kernel_rfl
theorem PV:kwWritten? l8.1.params.kwonlyargs l8.1.params.kw_defaults=some l8.2:=by kernel_rfl
set_option tactic.hygienic true in
theorem join:PySem.Challenge.rw_nt0075_01.Holds:=by
 refine holds_law Qa fun Vp=>holds_open (d:=l8.1) (kwd:=l8.2) (q:=qv) (loose:=lz) (Xt:=fun _=>true) (XP:=fun _ _=>True) (YP:=InK hd.heap_1) (P_ Fn) (InK.of (PN Fn)) InK.keeps (fun _ _=>trivial) (fun _ _ _ _ _=>trivial) PU PW PV (fun _ _=>recFacts_nil rfl) (by rfl) Vp P8 PO Qd ?_
 intro w Ko hQ ce ar G Y eD o pm cd doc px p5 aT e7 rx cL FP b6 args vals as FX wz ib rA ej
 have ve:(hd.heap_1 w.params).In _:=Y
 clear Y e7 rx cL aT
 have wB:ce "law"=some (Value.ref eD):=FP
 clear FP
 refine Ground.open G ?_
 intro T B D TE TW
 have qX:=T.g
 have wC:=Tb ve T.g (by kernel_rfl)
 have QD:eD=738:=by
  rw[wC] at wB
  have:ud (hd.heap_1 w.params) "law"=some (.ref 738):=by kernel_rfl
  rw[this] at wB
  cases wB;rfl
 subst QD
 have ok:(ay PySem.Challenge.rw_nt0075_01.row.prog w hQ.heap ar).Ok:=⟨ve,by
  obtain⟨o,av,ep,ag,ah,aE,a7⟩:=T.g
  exact⟨o,av,ep,ag,ah,aE,fun x=>(a7 x).trans (wC x)⟩,T.b,T.builtins,T.nolimit,T.nodigits⟩
 clear B D TE TW qX wB T
 have key:∀Q:Prop,(∀a ns,vals=[Value.ref a]→vg (ay PySem.Challenge.rw_nt0075_01.row.prog w hQ.heap ar) a ns→Q)→Q:=by
  clear G ve wC ok
  intro Q k
  wrow_args FX wz ib rA ej
  rename_i ns _ _ _ _ _ _ _ a vs _ bH _ _ _ jO _ hlen _
  exact k a ns rfl ⟨⟨vs,bH,RP jO⟩,by omega⟩
 clear G ve wC FX wz ib rA ej
 refine key _ fun a ns e aP=> ?_
 subst e
 obtain⟨H',cL⟩:=Lr a ns
 have I:aX (ay PySem.Challenge.rw_nt0075_01.row.prog w hQ.heap ar) [] [] hQ:=⟨fun _ _ e=>e,by simp,Nat.le_refl _,List.nodup_nil,rfl,by simp⟩
 refine wpAny_call (Mc ok aP [] [] hQ [.st (.ref a)] [.ref a] I (.one (by rw[aC])) _ H' cL callerA ?_ [] rfl (fun _ h=>by cases h) (fun _ h=>by cases h) _ fun aw s' u c4 eL da=> ?_)
 ·exact⟨by decide,by decide,rfl,fun _=>rfl⟩
 ·obtain rfl:=da.bool_inv
  show GoodWG _ _ _ _ _ _ _
  refine GoodW.toG ⟨.inl ⟨.bool true, .bool true,[],rfl,fun _=>rfl, .bool _,by kernel_rfl,fun h=>⟨List.nodup_nil,fun _ h=>by cases h⟩⟩,c4.keep,eL.os,eL.gens.trans b6⟩
end Mine
theorem PySem.Challenge.cw_nt0075_01_holds : PySem.Challenge.rw_nt0075_01.Holds := by
 exact Mine.join
