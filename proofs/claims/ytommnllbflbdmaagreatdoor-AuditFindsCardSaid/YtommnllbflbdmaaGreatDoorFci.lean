/- Lemmas. -/
import Derived.Test.YtommnllbflbdmaaGreatDoorFcg
set_option linter.all false
set_option maxHeartbeats 1000000
namespace Go.Proofs.YtommnllbflbdmaaGreatDoor
section
open Go.V
def sumA(f:Int→Int):List Int→Int
 | []=>0
 | a::l=>f a+sumA f l
def JJ(stk:Int→Int→LL)(F:List FlM):Prop:=∀a i,stk a i≠[]→∃f∈F,f.to=a∧f.item=i
structure BalI (stk:Int→Int→LL) (tot:Int→Int) (fl:List FlM):Prop where
 sum:∀i (A:List Int),A.Nodup→0∉A→sumA (fun a=>lsum (stk a i)) A≤tot i
 wld:∀i,stk 0 i=[]
 src:JJ stk fl
 top:∀i,tot i≤1099511627776
def BalI.nn{stk:Int→Int→LL}{tot:Int→Int}{fl:List FlM}(h:BalI stk tot fl)(i:Int):0≤tot i:=h.sum i [] List.nodup_nil aV
def BalI.le{stk:Int→Int→LL}{tot:Int→Int}{fl:List FlM}(h:BalI stk tot fl){a:Int}(ha:a≠0)(i:Int):lsum (stk a i)≤tot i:=by
 have:=h.sum i [a] ce (by simpa using fun q:0=a=>ha q.symm)
 have e:sumA (fun a=>lsum (stk a i)) [a]=lsum (stk a i)+0:=rfl;omega
def Gi{sh:Int}{fl:List FlM}{mix:Int→Bool}{s:StM}{W:Wk}{m:MvM}(he:(cC sh fl mix s W m).1=0) :
  gErr sh (fl++W.flows) s W m=0∧cw W m≤1099511627776∧(cC sh fl mix s W m).2.tot=upd W.tot m.item (cw W m)∧(cC sh fl mix s W m).2.flows=W.flows++[fk sh fl.length mix s W m]∧(cC sh fl mix s W m).2.stk=if m.to=0 then gStk mix W m else upd2 (gStk mix W m) m.to m.item (aZ (gStk mix W m m.to m.item) (cL sh fl.length W,0,m.n)):=by
 unfold cC at he ⊢;by_cases h1:gErr sh (fl++W.flows) s W m≠0
 ·rw[if_pos h1] at he;exact absurd he h1
 rw[if_neg h1] at he ⊢;by_cases h2:cw W m>1099511627776
 ·rw[if_pos h2] at he;exact absurd (show(4:Int)=0 from he) ae
 rw[if_neg h2] at he ⊢;by_cases h3:m.to=0
 ·rw[if_pos h3,if_pos h3];exact⟨Classical.not_not.1 h1,ab,rfl,rfl,rfl⟩
 rw[if_neg h3] at he ⊢;by_cases h4:4096≤(gStk mix W m m.to m.item).length
 ·rw[if_pos h4] at he;exact absurd (show(4:Int)=0 from he) ae
 rw[if_neg h4,if_neg h3];exact⟨Classical.not_not.1 h1,ab,rfl,rfl,rfl⟩
inductive AccL:LedM→List StM→LedM→Prop
 | nil (S:LedM):AccL S [] S
 | cons {S S' : LedM} {s:StM} {ss:List StM}:(gTry S s).1=0→s.id=aP S→AccL (cM S s) ss S'→AccL S (s::ss) S'
def AccL.snoc{S' : LedM}{s:StM}:∀{ss:List StM} {S:LedM},AccL S ss S'→(gTry S' s).1=0→AccL S (ss++[s.at (aP S')]) (cM S' s)
 | [],_,.nil _,h=>.cons (s:=s.at (aP S')) h rfl (.nil _)
 | u::ss,S,.cons h1 h2 h3,h=>.cons h1 h2 (AccL.snoc h3 h)
def LRep.acc{sh:Int}{c:CatM}{S:LedM}(h:LRep sh c S):AccL (led0 sh c) S.steps S:=by
 induction h with
 | zero=>exact .nil _
 | post h1 h2 ih =>
  have e:(cM _ _).steps=_:=congrArg LedM.steps (if_pos h2);rw[e];exact AccL.snoc (S:=led0 sh c) ih h2
def AccL.pre:∀{ss:List StM} {S S' : LedM},AccL S ss S'→∃z,S'.flows=S.flows++z
 | [],_,_,.nil _=>⟨[],(aR _).symm⟩
 | s::ss,S,S',.cons h1 h2 h3=>by
  obtain⟨z,hz⟩:=h3.pre;obtain⟨w,hw⟩:=nS S s;exact⟨w++z,by rw[hz,hw,aF]⟩
def Gg{S:LedM}{s:StM}(h:(gTry S s).1=0):(cM S s).steps.length=S.steps.length+1:=by
 have e:cM S s=gt S s:=if_pos h;rw[e];show(S.steps++[_]).length=_;rw[aq,aM]
structure AbsW (n:Nat) (stk:Int→Int→LL) (tot:Int→Int) (t:List Int) (f:Int→Int→Int):Prop where
 len:t.length=n
 t:∀i:Nat,i<n→t[i]! = tot i
 f:∀a i,f a i=if a=0 then 0 else lsum (stk a i)
end
section
open Go.V
attribute [local irreducible] G GO GP GPW GPK GF GE Ev Ef EfR Ent CB GB V.Enters
def mvC(m:MvV):Prop:=m.m.parts.length≤m.pcap
def stC(s:StV):Prop:=s.moves.length≤s.mcap∧∀m∈s.moves,mvC m
def yV{L:LH}(m:MvV)(hl:m.m.parts.length≤1000000) :
  Tri ai 126 #[aO (aL m)] (mvP m::L) (fun v L'=>∃m',v=aO (aL m')∧(m'.m=m.m∧mvC m')∧L' = mvP m'::mvP m::L):=by
 obtain⟨⟨frm,to,item,n,parts⟩,pad,pcap⟩:=m;dsimp only at hl;refine Tri.bd (args:=[aO (aL ⟨⟨frm,to,item,n,parts⟩,pad,pcap⟩)]) ?_;refine JM ?_;intros;refine GO.ca (hM pad parts.length pcap parts rfl ab) ?_;rintro _ _⟨a1,a0,rfl,rfl⟩;refine GO.d8 (gA (ad:=a1) (cap:=a0) (xs:=parts) (enc:=aj) (sz:=3) (E:=tLot)) ?_;rintro⟨hc,_⟩;refine JM ?_;intros;refine KX.d7 (by exact ResOk.cell rfl aK (ResOk.nil)) ?_ ⟨⟨⟨frm,to,item,n,parts⟩,a1,a0⟩,rfl,⟨rfl,hc⟩,rfl⟩;refine(Ent.frz a1).trans ?_;exact ag
def yO{L:LH}(ad:OA)(c:Nat)(ms:List MvV)(hl:ms.length≤64)(hp:∀m∈ms,m.m.parts.length≤1000000) :
  Tri ai 125 #[ah ad ms.length c,.func (.func 126) #[] #[]] (isl aL 5 ad ms::allP mvP ms::L) (fun v L'=>∃a4 c' a0,v=ah a4 a0.length c'∧(a0.map (·.m)=ms.map (·.m)∧a0.length≤c'∧∀m∈a0,mvC m)∧L' = osl aL 5 tMv a4 c' a0::allP mvP a0::isl aL 5 ad ms::allP mvP ms::L):=by
 refine Tri.bd ?_;by_cases h0:ms.length=0
 ·have e:ms=[]:=aX h0;subst e;refine JM ?_;intros;exact KX.d7 an ((Ent.d9 mvP).trans (Ent.d8 aL 5 tMv)) ⟨none,0,[],rfl,⟨rfl,aB _,(fun m h=>by cases h)⟩,rfl⟩
 refine JM ?_;intros;refine GO.ef (Ef.f8 aL mv0 rfl rfl rfl ab ab ab ab) ae ?_;rintro _ _⟨bs,rfl,rfl⟩;rw[show(ms.length:Int).toNat=ms.length by omega];refine JM ?_;intros
 refine G.loop (α:=Nat×List MvV) (fun z=>z.1≤ms.length∧z.2.length=ms.length∧((z.2.take z.1).map (·.m)=(ms.take z.1).map (·.m)∧∀m∈z.2.take z.1,mvC m)) (fun  z=>[(1,.func (.func 126) #[] #[]),(5,ah (some ⟨bs,0,none⟩) ms.length ms.length),(14,ah ad ms.length c),(15,ac (ms.length:Int)),(16,ac (z.1:Int))])
  (fun z=>osl aL 5 tMv (some ⟨bs,0,none⟩) ms.length z.2::allP mvP (z.2.take z.1)::isl aL 5 ad ms::allP mvP ms::L) (fun z=>ms.length - z.1) (0,List.replicate ms.length mv0) ⟨ax _,by simp,by simp,(fun m h=>by rw[bK] at h;cases h)⟩ av ?_ ?_
 ·dsimp only;rw[bK];refine(Ent.d9 mvP).trans ?_;exact ag
 rintro⟨i,zs⟩ ⟨hi,a7,a2,a1⟩;dsimp only at hi a7 a2 a1 ⊢;by_cases a3:i<ms.length
 case neg =>
  have a8:i=ms.length:=ab;subst a8;rw[aD ab,aD ab] at a2;rw[aD ab] at a1;rw[aD (ab:zs.length≤ms.length)];refine JM ?_;intros;refine KX.d7 an (Ent.refl _) ⟨some ⟨bs,0,none⟩,ms.length,zs,by rw[a7];rfl,⟨a2,ab,a1⟩,rfl⟩
 have a5:(i:Int).toNat=i:=ab;have a6:ms[i]!∈ms:=aJ a3;refine JM ?_;intros;rw[a5];refine GO.ent (Ent.at (A:=allP mvP ms) (Ent.e7 (x:=ms[i]!) a6)) ?_;refine GO.ef (Ef.d8 rfl rfl (yV ms[i]! (hp _ a6))) ae ?_;rintro _ _⟨m',rfl,⟨a9,b0⟩,rfl⟩;refine JM ?_;intros;refine GO.efu (Ef.f7 (e:=m') rfl rfl aK aK (jA _) ab) ?_;rintro _ _ rfl;rw[a5];refine JM ?_;intros;refine⟨(i+1,zs.set i m'),⟨by dsimp only;omega,by dsimp only;simp;omega,?_,?_⟩,by dsimp only;omega,?_,?_⟩
 ·dsimp only;rw[dh ab,aG a3,aW,aW,a2,←getElem!_of a3];simp[a9]
 ·dsimp only;rw[dh ab];intro m hm;rcases List.mem_append.1 hm with q|q
  ·exact a1 m q
  ·rw[List.mem_singleton.1 q];exact b0
 ·dsimp only;rw[aY i];exact av
 ·dsimp only;rw[dh ab];refine Ent.d7 ?_;refine Ent.trans (B:=allP mvP (zs.take i)::mvP m'::isl aL 5 ad ms::allP mvP ms::L) ag ?_;exact(Ent.d7 (Ent.f8 ix)).trans (Ent.g7 ix)
def yU{L:LH}(s:StV)(hl:s.moves.length≤64)(hp:∀m∈s.moves,m.m.parts.length≤1000000) :
  Tri ai 68 #[aO (aN s)] (stM s::stP s::L) (fun v L'=>∃s',v=aO (aN s')∧(s'.m=s.m∧stC s')∧L' = stO s'::stM s::stP s::L):=by
 obtain⟨i0,i1,i2,i3,i4,i5,ms,mad,mcap⟩:=s;dsimp only at hl hp;refine Tri.bd (args:=[aO (aN ⟨i0,i1,i2,i3,i4,i5,ms,mad,mcap⟩)]) ?_;refine JM ?_;intros;refine GO.ent (Ent.at (A:=isl aL 5 mad ms) (Ent.d7 (Ent.at (A:=allP mvP ms) (Ent.refl _)))) ?_;refine GO.ca (yO mad mcap ms hl hp) ?_;rintro _ _⟨a3,c',a2,rfl,⟨a4,a0,a1⟩,rfl⟩;refine JM ?_;intros;refine KX.d7 (by exact ResOk.cell rfl aK (ResOk.nil)) ?_ ⟨⟨i0,i1,i2,i3,i4,i5,a2,a3,c'⟩,rfl,⟨by simp only[StV.m,a4],a0,a1⟩,rfl⟩;refine Ent.trans (B:=osl aL 5 tMv a3 c' a2::allP mvP a2::isl aL 5 mad ms::allP mvP ms::L) ag ?_;exact Ent.m5
def yK{L:LH}(ad:OA)(c:Nat)(ms:List StV)(hl:ms.length≤100000)(hp:∀m∈ms,m.moves.length≤64∧∀u∈m.moves,u.m.parts.length≤1000000) :
  Tri ai 67 #[ah ad ms.length c,.func (.func 68) #[] #[]] (asl aN 7 ba ad c ms::allP cH ms::L) (fun v L'=>∃a4 c' a0,v=ah a4 a0.length c'∧(a0.map (·.m)=ms.map (·.m)∧a0.length≤c'∧∀m∈a0,stC m)∧L' = osl aN 7 ba a4 c' a0::bigO stO a0::asl aN 7 ba ad c ms::allP cH ms::L):=by
 refine Tri.bd ?_;by_cases h0:ms.length=0
 ·have e:ms=[]:=aX h0;subst e;refine JM ?_;intros;exact KX.d7 an ((Ent.l5 stO).trans (Ent.d8 aN 7 ba)) ⟨none,0,[],rfl,⟨rfl,aB _,(fun m h=>by cases h)⟩,rfl⟩
 refine JM ?_;intros;refine GO.ef (Ef.f8 aN st0 rfl rfl rfl ab ab ab ab) ae ?_;rintro _ _⟨bs,rfl,rfl⟩;rw[show(ms.length:Int).toNat=ms.length by omega];refine JM ?_;intros
 refine G.loop (α:=Nat×List StV) (fun z=>z.1≤ms.length∧z.2.length=ms.length∧((z.2.take z.1).map (·.m)=(ms.take z.1).map (·.m)∧∀m∈z.2.take z.1,stC m)) (fun  z=>[(1,.func (.func 68) #[] #[]),(5,ah (some ⟨bs,0,none⟩) ms.length ms.length),(14,ah ad ms.length c),(15,ac (ms.length:Int)),(16,ac (z.1:Int))])
  (fun z=>osl aN 7 ba (some ⟨bs,0,none⟩) ms.length z.2::bigO stO (z.2.take z.1)::asl aN 7 ba ad c ms::allP cH ms::L) (fun z=>ms.length - z.1) (0,List.replicate ms.length st0) ⟨ax _,by simp,by simp,(fun m h=>by rw[bK] at h;cases h)⟩ av ?_ ?_
 ·dsimp only;rw[bK];refine(Ent.l5 stO).trans ?_;exact ag
 rintro⟨i,zs⟩ ⟨hi,a8,a2,a1⟩;dsimp only at hi a8 a2 a1 ⊢;by_cases a3:i<ms.length
 case neg =>
  have a9:i=ms.length:=ab;subst a9;rw[aD ab,aD ab] at a2;rw[aD ab] at a1;rw[aD (ab:zs.length≤ms.length)];refine JM ?_;intros;refine KX.d7 an (Ent.refl _) ⟨some ⟨bs,0,none⟩,ms.length,zs,by rw[a8];rfl,⟨a2,ab,a1⟩,rfl⟩
 have a5:(i:Int).toNat=i:=ab;have a6:ms[i]!∈ms:=aJ a3;have a7:=hp _ a6;refine JM ?_;intros;rw[a5];refine GO.ent (Ent.at (A:=allP cH ms) ((Ent.e7 (f:=cH) (x:=ms[i]!) a6).trans Ent.andE)) ?_;refine GO.ef (Ef.d8 rfl rfl (yU ms[i]! a7.1 a7.2)) ae ?_;rintro _ _⟨m',rfl,⟨b0,b1⟩,rfl⟩;refine JM ?_;intros;refine GO.efu (Ef.f7 (e:=m') rfl rfl aK aK (jz _) ab) ?_;rintro _ _ rfl;rw[a5];refine JM ?_;intros;refine⟨(i+1,zs.set i m'),⟨by dsimp only;omega,by dsimp only;simp;omega,?_,?_⟩,by dsimp only;omega,?_,?_⟩
 ·dsimp only;rw[dh ab,aG a3,aW,aW,a2,←getElem!_of a3];simp[b0]
 ·dsimp only;rw[dh ab];intro m hm;rcases List.mem_append.1 hm with q|q
  ·exact a1 m q
  ·rw[List.mem_singleton.1 q];exact b1
 ·dsimp only;rw[aY i];exact av
 ·dsimp only;rw[dh ab];refine Ent.d7 ?_;refine Ent.trans (B:=stO m'::bigO stO (zs.take i)::asl aN 7 ba ad c ms::allP cH ms::L) ag ?_;exact Ent.m6
def zo{L:LH}(b:Nat)(S:LedM)(hS:∀s∈S.steps,s.moves.length≤64∧∀u∈s.moves,u.parts.length≤1000000)(a4:S.steps.length≤100000) :
  Tri ai 25 #[ay b] (LedR b S::L) (fun v L'=>∃ad cap ss,v=ah ad ss.length cap∧(ss.map StV.m=S.steps∧∀s∈ss,stC s)∧L' = osl aN 7 ba ad cap ss::bigO stO ss::LedR b S::L):=by
 refine Tri.bd ?_;refine G.d9 (f:=ledA b S) ?_;intro x;simp only[ledA,ledL,bR,ao,al];refine G.e9 ?_;intro hF;have a5:x.steps.length=S.steps.length:=by rw[←hF.steps];simp
 have a3:∀m∈x.steps,m.moves.length≤64∧∀u∈m.moves,u.m.parts.length≤1000000:=fun m hm=>by
  have h1:=hS m.m (by rw[←hF.steps];exact alStd0List_mem_map_of_mem hm);exact⟨by have:=h1.1;simpa [StV.m] using this,fun u hu=>h1.2 u.m (alStd0List_mem_map_of_mem hu)⟩
 refine JM ?_;intros;refine GO.ent (Ent.at (A:=asl aN 7 ba x.sad x.scap x.steps) (Ent.d7 (Ent.at (A:=allP cH x.steps) (Ent.refl _)))) ?_;refine GO.ca (yK x.sad x.scap x.steps ab a3) ?_;rintro _ _⟨a0,c',fs,rfl,⟨a2,_,a1⟩,rfl⟩;refine JM ?_;intros;refine KX.d7 an ?_ ⟨a0,c',fs,rfl,⟨a2.trans hF.steps,a1⟩,rfl⟩;refine Ent.trans ?_ (Ent.d7 (Ent.d7 (kD x hF)));simp only[ledL];exact ag
end
section
open Go.V
def LedM.asX(S:LedM)(x:LedX):LedM:={ S with imp:=fun i=>(eY x.imp i).lots,ret:=fun i=>(eY x.ret i).lots }
def LedFG.toF{S:LedM}{x:LedX}(h:LedFG S x):LedF (S.asX x) x:=⟨h.cat,h.catB,h.stk,h.full,h.tot,h.steps,h.flows,fun _=>rfl,fun _=>rfl⟩
def LedG.ok{k:Nat}{S:LedM}(h:LedG k S)(hk:k≤4096):S.Ok:=⟨h.shard,h.steps,h.flows,fun a i=>⟨cO (h.stk a i).len hk,(h.stk a i).lots⟩,h.tot⟩
def HU:SetS (eY ([]:List (Int×Stk))) []:=Hc
attribute [local irreducible] G GO GP GPW GPK GF GE Ev Ef EfR Ent CB GB V.Enters
def Ea{L:LH}(sh:Int)(c:CatV)(a1:0≤sh∧sh<12)(hB:c.B)(h:CatGood c.m):Tri ai 23 #[ac sh,aO c.cells] (catP c::bZ::L) (fun v L'=>∃b,v=.tuple #[ay b,ac 0]∧L' = mM b (led0 sh c.m)::catP c::bZ::L):=by
 obtain⟨h1,h2⟩:=a1;refine Tri.bd ?_;simp only[CatV.cells];refine JM ?_;intros;rename_i b3;refine GO.ent (L':=catP c::bZ::obj b3 tCat c.cells::L) (by simp only[CatV.cells];exact ag) ?_;refine GO.cr (vO c hB h) ?_;simp only[CatV.cells];refine JM ?_;intros;refine GO.ent (L':=catP c::bZ::obj b3 tCat c.cells::L) (by simp only[CatV.cells];exact ag) ?_;refine GO.ca (pL c hB) ?_;rintro _ _⟨c',rfl,a0,rfl⟩;simp only[CatV.cells];refine GO.ef (Ef.e7 kvP Stk.v (.inl rfl)) ae ?_;rintro _ _⟨b1,rfl,rfl⟩;refine GO.ef (Ef.e7 kvI encN (.inl rfl)) ae ?_;rintro _ _⟨b2,rfl,rfl⟩;refine GO.ef (Ef.e7 kvI Stk.v (.inl rfl)) ae ?_;rintro _ _⟨b4,rfl,rfl⟩;refine GO.ef (Ef.e7 kvI Stk.v (.inl rfl)) ae ?_;rintro _ _⟨b5,rfl,rfl⟩;refine JM ?_;intros;rename_i b6;refine KX.d7 an ?_ ⟨b6,rfl,rfl⟩;refine Ent.trans ?_ (qm (S:=led0 sh c.m) ⟨c',b1,b2,b4,b5,[],[],[],[],[],none,0,[],none,0⟩ ⟨a0,CatV.d7 a0 hB,fun _ _=>rfl,(fun _ h=>by cases h),fun _=>rfl,rfl,rfl,HU,HU⟩);simp only[ledL,bR,led0];refine(Ent.d8 aN 7 ba).trans (Ent.ofOsl.trans ((Ent.d8 aQ 11 bE).trans (Ent.ofOsl.trans ?_)));refine(Ent.d9 (fun p:(Int×Int)×Stk=>stkP p.2)).trans ((Ent.d9 cH).trans ((Ent.d9 flP).trans ((Ent.d9 (fun p:Int×Stk=>stkP p.2)).trans ((Ent.d9 (fun p:Int×Stk=>stkP p.2)).trans ?_))));exact ag
