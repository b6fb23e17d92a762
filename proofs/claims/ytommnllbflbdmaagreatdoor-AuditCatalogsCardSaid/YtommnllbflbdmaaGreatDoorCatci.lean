/- Lemmas. -/
import Derived.Test.YtommnllbflbdmaaGreatDoorCatcg
set_option linter.all false
set_option maxHeartbeats 1000000
namespace Go.Proofs.YtommnllbflbdmaaGreatDoor
section
open Go.V
def sumA(f:Int→Int):List Int→Int
 | []=>0
 | a::l=>f a+sumA f l
def ID(stk:Int→Int→LL1)(F:List FlM):Prop:=∀a i,stk a i≠[]→∃f∈F,f.to=a∧f.item=i
structure BalI (stk:Int→Int→LL1) (tot:Int→Int) (fl:List FlM):Prop where
 sum:∀i (A:List Int),A.Nodup→0∉A→sumA (fun a=>lsum (stk a i)) A≤tot i
 wld:∀i,stk 0 i=[]
 src:ID stk fl
 top:∀i,tot i≤1099511627776
def BalI.nn{stk:Int→Int→LL1}{tot:Int→Int}{fl:List FlM}(h:BalI stk tot fl)(i:Int):0≤tot i:=h.sum i [] List.nodup_nil aH
def BalI.le{stk:Int→Int→LL1}{tot:Int→Int}{fl:List FlM}(h:BalI stk tot fl){a:Int}(ha:a≠0)(i:Int):lsum (stk a i)≤tot i:=by
 have:=h.sum i [a] bH (by simpa using fun q:0=a=>ha q.symm)
 have e:sumA (fun a=>lsum (stk a i)) [a]=lsum (stk a i)+0:=rfl;omega
inductive AccL:LedM→List StM→LedM→Prop
 | nil (S:LedM):AccL S [] S
 | cons {S S' : LedM} {s:StM} {ss:List StM}:(gTry S s).1=0→s.id=bu S→AccL (cS S s) ss S'→AccL S (s::ss) S'
def AccL.snoc{S' : LedM}{s:StM}:∀{ss:List StM} {S:LedM},AccL S ss S'→(gTry S' s).1=0→AccL S (ss++[s.at (bu S')]) (cS S' s)
 | [],_,.nil _,h=>.cons (s:=s.at (bu S')) h rfl (.nil _)
 | u::ss,S,.cons h1 h2 h3,h=>.cons h1 h2 (AccL.snoc h3 h)
def LRep.acc{sh:Int}{c:CatM}{S:LedM}(h:LRep sh c S):AccL (led0 sh c) S.steps S:=by
 induction h with
 | zero=>exact .nil _
 | post h1 h2 ih =>
  have e:(cS _ _).steps=_:=congrArg LedM.steps (if_pos h2);rw[e];exact AccL.snoc (S:=led0 sh c) ih h2
def AccL.pre:∀{ss:List StM} {S S' : LedM},AccL S ss S'→∃z,S'.flows=S.flows++z
 | [],_,_,.nil _=>⟨[],(aO _).symm⟩
 | s::ss,S,S',.cons h1 h2 h3=>by
  obtain⟨z,hz⟩:=h3.pre;obtain⟨w,hw⟩:=kr S s;exact⟨w++z,by rw[hz,hw,aF]⟩
def nq{S:LedM}{s:StM}(h:(gTry S s).1=0):(cS S s).steps.length=S.steps.length+1:=by
 have e:cS S s=gZ S s:=if_pos h;rw[e];show(S.steps++[_]).length=_;rw[ax,aG]
def yd:∀{ss:List StM} {S S' : LedM},AccL S ss S'→audG S'.flows S.steps.length S ss=(0,0,0)
 | [],S,_,.nil _=>by rw[oQ,if_neg (Nat.lt_irrefl _)]
 | s::ss,S,S',.cons h1 h2 h3=>by
  obtain⟨z,hz⟩:=h3.pre;obtain⟨w,hw⟩:=kr S s;have hl:S'.flows.length=(cS S s).flows.length+z.length:=by rw[hz,ax]
  rw[jY,if_neg (fun q=>q h2),if_neg (fun q=>q h1),if_neg (fun q=>?_),←nq h1]
  ·exact yd h3
  ·rcases q with q|q
   ·omega
   ·refine q ?_;rw[hz,hw,aF,List.drop_left,List.drop_left,ax,Nat.add_sub_cancel_left,List.take_left]
structure AbsW (n:Nat) (stk:Int→Int→LL1) (tot:Int→Int) (t:List Int) (f:Int→Int→Int):Prop where
 len:t.length=n
 t:∀i:Nat,i<n→t[i]! = tot i
 f:∀a i,f a i=if a=0 then 0 else lsum (stk a i)
def LedM.asX(S:LedM)(x:LedX):LedM:={ S with imp:=fun i=>(eU x.imp i).lots,ret:=fun i=>(eU x.ret i).lots }
def LedFG.toF{S:LedM}{x:LedX}(h:LedFG S x):LedF (S.asX x) x:=⟨h.cat,h.catB,h.stk,h.full,h.tot,h.steps,h.flows,fun _=>rfl,fun _=>rfl⟩
def LedG.ok{k:Nat}{S:LedM}(h:LedG k S)(hk:k≤4096):S.Ok:=⟨h.shard,h.steps,h.flows,fun a i=>⟨cN (h.stk a i).len hk,(h.stk a i).lots⟩,h.tot⟩
def GC:SetS (eU ([]:List (Int×Stk))) []:=FM
attribute [local irreducible] G GO GP GPW GPK GF GE Ev Ef EfR Ent CB GB V.Enters
def sG{L:LH}(sh:Int)(c:CatV)(a1:0≤sh∧sh<12)(hB:c.B)(h:CatGood c.m):Tri ai 23 #[ac sh,aN c.cells] (catP c::cn::L) (fun v L'=>∃b,v=.tuple #[aq b,ac 0]∧L' = ji b (led0 sh c.m)::catP c::cn::L):=by
 obtain⟨h1,h2⟩:=a1;refine Tri.bd ?_;simp only[CatV.cells];refine IF ?_;intros;rename_i b3;refine GO.ent (L':=catP c::cn::obj b3 tCat c.cells::L) (by simp only[CatV.cells];exact ah) ?_;refine GO.cr (uN c hB h) ?_;simp only[CatV.cells];refine IF ?_;intros;refine GO.ent (L':=catP c::cn::obj b3 tCat c.cells::L) (by simp only[CatV.cells];exact ah) ?_;refine GO.ca (oZ c hB) ?_;rintro _ _⟨c',rfl,a0,rfl⟩;simp only[CatV.cells];refine GO.ef (Ef.e8 kvP Stk.v (.inl rfl)) ag ?_;rintro _ _⟨b1,rfl,rfl⟩;refine GO.ef (Ef.e8 kvI encN (.inl rfl)) ag ?_;rintro _ _⟨b2,rfl,rfl⟩;refine GO.ef (Ef.e8 kvI Stk.v (.inl rfl)) ag ?_;rintro _ _⟨b4,rfl,rfl⟩;refine GO.ef (Ef.e8 kvI Stk.v (.inl rfl)) ag ?_;rintro _ _⟨b5,rfl,rfl⟩;refine IF ?_;intros;rename_i b6;refine KX.d7 av ?_ ⟨b6,rfl,rfl⟩;refine Ent.trans ?_ (pF (S:=led0 sh c.m) ⟨c',b1,b2,b4,b5,[],[],[],[],[],none,0,[],none,0⟩ ⟨a0,CatV.d7 a0 hB,fun _ _=>rfl,(fun _ h=>by cases h),fun _=>rfl,rfl,rfl,GC,GC⟩);simp only[ledL,bS,led0];refine(Ent.d8 aX 7 cQ).trans (Ent.ofOsl.trans ((Ent.d8 bT 11 dz).trans (Ent.ofOsl.trans ?_)));refine(Ent.e7 (fun p:(Int×Int)×Stk=>stkP p.2)).trans ((Ent.e7 cR).trans ((Ent.e7 flP).trans ((Ent.e7 (fun p:Int×Stk=>stkP p.2)).trans ((Ent.e7 (fun p:Int×Stk=>stkP p.2)).trans ?_))));exact ah
end
section
open Go.V
attribute [local irreducible] G GO GP GPW GPK GF GE Ev Ef EfR Ent CB GB V.Enters
def mvC(m:MvV):Prop:=m.m.parts.length≤m.pcap
def stC(s:StV):Prop:=s.moves.length≤s.mcap∧∀m∈s.moves,mvC m
def xW{L:LH}(m:MvV)(hl:m.m.parts.length≤1000000) :
  Tri ai 126 #[aN (aT m)] (mvP m::L) (fun v L'=>∃m',v=aN (aT m')∧(m'.m=m.m∧mvC m')∧L' = mvP m'::mvP m::L):=by
 obtain⟨⟨frm,to,item,n,parts⟩,pad,pcap⟩:=m;dsimp only at hl;refine Tri.bd (args:=[aN (aT ⟨⟨frm,to,item,n,parts⟩,pad,pcap⟩)]) ?_;refine IF ?_;intros;refine GO.ca (gV pad parts.length pcap parts rfl ab) ?_;rintro _ _⟨a1,a0,rfl,rfl⟩;refine GO.d8 (gg (ad:=a1) (cap:=a0) (xs:=parts) (enc:=ay) (sz:=3) (E:=tLot)) ?_;rintro⟨hc,_⟩;refine IF ?_;intros;refine KX.d7 (by exact ResOk.cell rfl aJ (ResOk.nil)) ?_ ⟨⟨⟨frm,to,item,n,parts⟩,a1,a0⟩,rfl,⟨rfl,hc⟩,rfl⟩;refine(Ent.frz a1).trans ?_;exact ah
def xP{L:LH}(ad:OA)(c:Nat)(ms:List MvV)(hl:ms.length≤64)(hp:∀m∈ms,m.m.parts.length≤1000000) :
  Tri ai 125 #[ae ad ms.length c,.func (.func 126) #[] #[]] (isl aT 5 ad ms::allP mvP ms::L) (fun v L'=>∃a4 c' a0,v=ae a4 a0.length c'∧(a0.map (·.m)=ms.map (·.m)∧a0.length≤c'∧∀m∈a0,mvC m)∧L' = osl aT 5 tMv a4 c' a0::allP mvP a0::isl aT 5 ad ms::allP mvP ms::L):=by
 refine Tri.bd ?_;by_cases h0:ms.length=0
 ·have e:ms=[]:=aW h0;subst e;refine IF ?_;intros;exact KX.d7 av ((Ent.e7 mvP).trans (Ent.d8 aT 5 tMv)) ⟨none,0,[],rfl,⟨rfl,aI _,(fun m h=>by cases h)⟩,rfl⟩
 refine IF ?_;intros;refine GO.ef (Ef.f8 aT mv0 rfl rfl rfl ab ab ab ab) ag ?_;rintro _ _⟨bs,rfl,rfl⟩;rw[show(ms.length:Int).toNat=ms.length by omega];refine IF ?_;intros
 refine G.loop (α:=Nat×List MvV) (fun z=>z.1≤ms.length∧z.2.length=ms.length∧((z.2.take z.1).map (·.m)=(ms.take z.1).map (·.m)∧∀m∈z.2.take z.1,mvC m)) (fun  z=>[(1,.func (.func 126) #[] #[]),(5,ae (some ⟨bs,0,none⟩) ms.length ms.length),(14,ae ad ms.length c),(15,ac (ms.length:Int)),(16,ac (z.1:Int))])
  (fun z=>osl aT 5 tMv (some ⟨bs,0,none⟩) ms.length z.2::allP mvP (z.2.take z.1)::isl aT 5 ad ms::allP mvP ms::L) (fun z=>ms.length - z.1) (0,List.replicate ms.length mv0) ⟨az _,by simp,by simp,(fun m h=>by rw[bC] at h;cases h)⟩ an ?_ ?_
 ·dsimp only;rw[bC];refine(Ent.e7 mvP).trans ?_;exact ah
 rintro⟨i,zs⟩ ⟨hi,a7,a2,a1⟩;dsimp only at hi a7 a2 a1 ⊢;by_cases a3:i<ms.length
 case neg =>
  have a8:i=ms.length:=ab;subst a8;rw[aB ab,aB ab] at a2;rw[aB ab] at a1;rw[aB (ab:zs.length≤ms.length)];refine IF ?_;intros;refine KX.d7 av (Ent.refl _) ⟨some ⟨bs,0,none⟩,ms.length,zs,by rw[a7];rfl,⟨a2,ab,a1⟩,rfl⟩
 have a5:(i:Int).toNat=i:=ab;have a6:ms[i]!∈ms:=aL a3;refine IF ?_;intros;rw[a5];refine GO.ent (Ent.at (A:=allP mvP ms) (Ent.d9 (x:=ms[i]!) a6)) ?_;refine GO.ef (Ef.d8 rfl rfl (xW ms[i]! (hp _ a6))) ag ?_;rintro _ _⟨m',rfl,⟨a9,b0⟩,rfl⟩;refine IF ?_;intros;refine GO.efu (Ef.e7 (e:=m') rfl rfl aJ aJ (km _) ab) ?_;rintro _ _ rfl;rw[a5];refine IF ?_;intros;refine⟨(i+1,zs.set i m'),⟨by dsimp only;omega,by dsimp only;simp;omega,?_,?_⟩,by dsimp only;omega,?_,?_⟩
 ·dsimp only;rw[dp ab,aC a3,aR,aR,a2,←getElem!_of a3];simp[a9]
 ·dsimp only;rw[dp ab];intro m hm;rcases List.mem_append.1 hm with q|q
  ·exact a1 m q
  ·rw[List.mem_singleton.1 q];exact b0
 ·dsimp only;rw[aU i];exact an
 ·dsimp only;rw[dp ab];refine Ent.d7 ?_;refine Ent.trans (B:=allP mvP (zs.take i)::mvP m'::isl aT 5 ad ms::allP mvP ms::L) ah ?_;exact(Ent.d7 (Ent.l0 iQ)).trans (Ent.j0 iQ)
def xV{L:LH}(s:StV)(hl:s.moves.length≤64)(hp:∀m∈s.moves,m.m.parts.length≤1000000) :
  Tri ai 68 #[aN (aX s)] (stM s::stP s::L) (fun v L'=>∃s',v=aN (aX s')∧(s'.m=s.m∧stC s')∧L' = stO s'::stM s::stP s::L):=by
 obtain⟨i0,i1,i2,i3,i4,i5,ms,mad,mcap⟩:=s;dsimp only at hl hp;refine Tri.bd (args:=[aN (aX ⟨i0,i1,i2,i3,i4,i5,ms,mad,mcap⟩)]) ?_;refine IF ?_;intros;refine GO.ent (Ent.at (A:=isl aT 5 mad ms) (Ent.d7 (Ent.at (A:=allP mvP ms) (Ent.refl _)))) ?_;refine GO.ca (xP mad mcap ms hl hp) ?_;rintro _ _⟨a3,c',a2,rfl,⟨a4,a0,a1⟩,rfl⟩;refine IF ?_;intros;refine KX.d7 (by exact ResOk.cell rfl aJ (ResOk.nil)) ?_ ⟨⟨i0,i1,i2,i3,i4,i5,a2,a3,c'⟩,rfl,⟨by simp only[StV.m,a4],a0,a1⟩,rfl⟩;refine Ent.trans (B:=osl aT 5 tMv a3 c' a2::allP mvP a2::isl aT 5 mad ms::allP mvP ms::L) ah ?_;exact Ent.m8
def xM{L:LH}(ad:OA)(c:Nat)(ms:List StV)(hl:ms.length≤100000)(hp:∀m∈ms,m.moves.length≤64∧∀u∈m.moves,u.m.parts.length≤1000000) :
  Tri ai 67 #[ae ad ms.length c,.func (.func 68) #[] #[]] (asl aX 7 cQ ad c ms::allP cR ms::L) (fun v L'=>∃a4 c' a0,v=ae a4 a0.length c'∧(a0.map (·.m)=ms.map (·.m)∧a0.length≤c'∧∀m∈a0,stC m)∧L' = osl aX 7 cQ a4 c' a0::bigO stO a0::asl aX 7 cQ ad c ms::allP cR ms::L):=by
 refine Tri.bd ?_;by_cases h0:ms.length=0
 ·have e:ms=[]:=aW h0;subst e;refine IF ?_;intros;exact KX.d7 av ((Ent.l8 stO).trans (Ent.d8 aX 7 cQ)) ⟨none,0,[],rfl,⟨rfl,aI _,(fun m h=>by cases h)⟩,rfl⟩
 refine IF ?_;intros;refine GO.ef (Ef.f8 aX st0 rfl rfl rfl ab ab ab ab) ag ?_;rintro _ _⟨bs,rfl,rfl⟩;rw[show(ms.length:Int).toNat=ms.length by omega];refine IF ?_;intros
 refine G.loop (α:=Nat×List StV) (fun z=>z.1≤ms.length∧z.2.length=ms.length∧((z.2.take z.1).map (·.m)=(ms.take z.1).map (·.m)∧∀m∈z.2.take z.1,stC m)) (fun  z=>[(1,.func (.func 68) #[] #[]),(5,ae (some ⟨bs,0,none⟩) ms.length ms.length),(14,ae ad ms.length c),(15,ac (ms.length:Int)),(16,ac (z.1:Int))])
  (fun z=>osl aX 7 cQ (some ⟨bs,0,none⟩) ms.length z.2::bigO stO (z.2.take z.1)::asl aX 7 cQ ad c ms::allP cR ms::L) (fun z=>ms.length - z.1) (0,List.replicate ms.length st0) ⟨az _,by simp,by simp,(fun m h=>by rw[bC] at h;cases h)⟩ an ?_ ?_
 ·dsimp only;rw[bC];refine(Ent.l8 stO).trans ?_;exact ah
 rintro⟨i,zs⟩ ⟨hi,a8,a2,a1⟩;dsimp only at hi a8 a2 a1 ⊢;by_cases a3:i<ms.length
 case neg =>
  have a9:i=ms.length:=ab;subst a9;rw[aB ab,aB ab] at a2;rw[aB ab] at a1;rw[aB (ab:zs.length≤ms.length)];refine IF ?_;intros;refine KX.d7 av (Ent.refl _) ⟨some ⟨bs,0,none⟩,ms.length,zs,by rw[a8];rfl,⟨a2,ab,a1⟩,rfl⟩
 have a5:(i:Int).toNat=i:=ab;have a6:ms[i]!∈ms:=aL a3;have a7:=hp _ a6;refine IF ?_;intros;rw[a5];refine GO.ent (Ent.at (A:=allP cR ms) ((Ent.d9 (f:=cR) (x:=ms[i]!) a6).trans Ent.andE)) ?_;refine GO.ef (Ef.d8 rfl rfl (xV ms[i]! a7.1 a7.2)) ag ?_;rintro _ _⟨m',rfl,⟨b0,b1⟩,rfl⟩;refine IF ?_;intros;refine GO.efu (Ef.e7 (e:=m') rfl rfl aJ aJ (lu _) ab) ?_;rintro _ _ rfl;rw[a5];refine IF ?_;intros;refine⟨(i+1,zs.set i m'),⟨by dsimp only;omega,by dsimp only;simp;omega,?_,?_⟩,by dsimp only;omega,?_,?_⟩
 ·dsimp only;rw[dp ab,aC a3,aR,aR,a2,←getElem!_of a3];simp[b0]
 ·dsimp only;rw[dp ab];intro m hm;rcases List.mem_append.1 hm with q|q
  ·exact a1 m q
  ·rw[List.mem_singleton.1 q];exact b1
 ·dsimp only;rw[aU i];exact an
 ·dsimp only;rw[dp ab];refine Ent.d7 ?_;refine Ent.trans (B:=stO m'::bigO stO (zs.take i)::asl aX 7 cQ ad c ms::allP cR ms::L) ah ?_;exact Ent.m6
def yu{L:LH}(b:Nat)(S:LedM)(hS:∀s∈S.steps,s.moves.length≤64∧∀u∈s.moves,u.parts.length≤1000000)(a4:S.steps.length≤100000) :
  Tri ai 25 #[aq b] (LedR b S::L) (fun v L'=>∃ad cap ss,v=ae ad ss.length cap∧(ss.map StV.m=S.steps∧∀s∈ss,stC s)∧L' = osl aX 7 cQ ad cap ss::bigO stO ss::LedR b S::L):=by
 refine Tri.bd ?_;refine G.e7 (f:=ledA b S) ?_;intro x;simp only[ledA,ledL,bS,ak,aj];refine G.e9 ?_;intro hF;have a5:x.steps.length=S.steps.length:=by rw[←hF.steps];simp
 have a3:∀m∈x.steps,m.moves.length≤64∧∀u∈m.moves,u.m.parts.length≤1000000:=fun m hm=>by
  have h1:=hS m.m (by rw[←hF.steps];exact alStd0List_mem_map_of_mem hm);exact⟨by have:=h1.1;simpa [StV.m] using this,fun u hu=>h1.2 u.m (alStd0List_mem_map_of_mem hu)⟩
 refine IF ?_;intros;refine GO.ent (Ent.at (A:=asl aX 7 cQ x.sad x.scap x.steps) (Ent.d7 (Ent.at (A:=allP cR x.steps) (Ent.refl _)))) ?_;refine GO.ca (xM x.sad x.scap x.steps ab a3) ?_;rintro _ _⟨a0,c',fs,rfl,⟨a2,_,a1⟩,rfl⟩;refine IF ?_;intros;refine KX.d7 av ?_ ⟨a0,c',fs,rfl,⟨a2.trans hF.steps,a1⟩,rfl⟩;refine Ent.trans ?_ (Ent.d7 (Ent.d7 (jP x hF)));simp only[ledL];exact ah
