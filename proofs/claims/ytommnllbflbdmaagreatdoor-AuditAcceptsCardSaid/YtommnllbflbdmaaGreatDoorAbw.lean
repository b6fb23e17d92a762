/- Lemmas. -/
import Derived.Test.YtommnllbflbdmaaGreatDoorAbu
set_option linter.all false
set_option maxHeartbeats 16000000
namespace Go.Proofs.YtommnllbflbdmaaGreatDoor
section
open Go.V
attribute [local irreducible] G GO GP GPW GPK Ev Ef EfR Ent CB GB V.Enters uc
structure AudS (ss:List StV):Prop where
 len:ss.length≤60000
 inp:∀s∈ss,StInG s∧s.moves.length≤s.mcap
 k:stK (ss.map StV.m)≤2000
 l:∀a i,stL a i (ss.map StV.m)≤19
structure AudFl (fs:List FlV):Prop where
 len:fs.length≤1000000000
 fl:∀f∈fs,f.m.parts.length≤1000000000∧f.m.made.length≤1000000000
abbrev Av:=ay8 [.ev 17,.ef 18,.ev 19,.ev 20]
abbrev Au:=ay5 []
def cI{φ ψ:Prop}(k:ψ)(h:Hid ψ→φ:=by intro k;(with_reducible apply G.d7);first|refine G.dr 105 14 Av (Hid.out k)|refine G.dr 105 17 Au (Hid.out k)):φ:=h ⟨k⟩
def am2{φ ψ:Prop}(k:ψ)(h:Hid ψ→φ:=by intro k;(repeat (first|refine aa ?_|intro zzz|refine G.dr 105 14 Av ?_|refine G.dr 105 17 Au ?_));(repeat revert zzz);exact Hid.out k):φ:=h ⟨k⟩
def xT{L:LH}(b4 b5 b6 b7:Nat)(sh:Int)(c:CatV)(hB:c.B)(hc:c.m.Ok)(sad:OA)(n scap:Nat)(ss:List StV)[f4:Rds L sad StV aT 7 ss](hn:n=ss.length)(hS:AudS ss)(c9:∀s∈ss,Ent L (cC s::L))(fad:OA)(n2 fcap:Nat)(fs:List FlV)[e6:Rds L fad FlV bL 11 fs](d5:n2=fs.length)(hF:AudFl fs)(d6:fs.length≤fcap)(e2:∀f∈fs,Ent L (flP f::L)) :
  TriE ai 44 ([ax b4,ax b5,ax b6,ax b7]:LV).toArray
   (obj b4 tInt [ac sh]::obj b5 33 c.cells::obj b6 26 [ah sad n scap]::obj b7 35 [ah fad n2 fcap]::catP c::L)
   (fun _ L'=>audF sh c.m (ss.map StV.m) (fs.map FlV.m)=(0,0,0)∧L' = L) (fun ch L'=>∃x,ch=pnc x∧x=audF sh c.m (ss.map StV.m) (fs.map FlV.m)∧L' = L):=by
 subst hn d5;have d0:=hS.len;refine TriE.body 105 en44 Tryz.func44 rfl rfl rfl bZ ?_;by_cases h1:0≤sh∧sh<12
 case neg =>
  have e:audF sh c.m (ss.map StV.m) (fs.map FlV.m)=(1,sh,0):=if_neg h1;rw[e];by_cases h0:0≤sh
  ·have h2:¬sh<12:=fun q=>h1 ⟨h0,q⟩;refine am2 ?_;intros;refine GO.ev (Ev.g9 rfl) ag ?_;refine GO.panic rfl ?_;repeat first|with_reducible apply KX.e8|with_reducible apply KX.d9
   exact KX.e9 ae ⟨(1,sh,0),rfl,rfl,rfl⟩
  ·skip;refine am2 ?_;intros;refine GO.ev (Ev.g9 rfl) ag ?_;refine GO.panic rfl ?_;repeat first|with_reducible apply KX.e8|with_reducible apply KX.d9
   exact KX.e9 ae ⟨(1,sh,0),rfl,rfl,rfl⟩
 have e:audF sh c.m (ss.map StV.m) (fs.map FlV.m)=audG (fs.map FlV.m) 0 (led0 sh c.m) (ss.map StV.m):=if_pos h1;rw[e];have d3:=tL h1 c.m;obtain⟨f2,e5⟩:=h1;refine am2 ?_;intros;refine GO.ent (L':=catP c::obj b4 tInt [ac sh]::obj b5 33 c.cells::obj b6 26 [ah sad ss.length scap]::obj b7 35 [ah fad fs.length fcap]::L) ae ?_;refine GO.ca (vV sh c) ?_;rintro _ _⟨b,ms,mt,mi,mr,rfl,rfl⟩;have a7:BkR (led0 sh c.m) (bk0 c ms mt mi mr):=⟨rfl,hB,rfl,rfl,rfl,fun _ _=>rfl,fun _ _=>aB _,fun _=>rfl,⟨List.nodup_nil,fun _=>rfl⟩,⟨List.nodup_nil,fun _=>rfl⟩⟩;simp only[bkL,bP];refine am2 ?_;intros
 refine G.loop (α:=Nat×BkX×LedM) (fun g=>g.1≤ss.length∧BkR g.2.2 g.2.1∧LedA (stK ((ss.map StV.m).take g.1)) g.2.2∧g.2.2.shard=sh∧g.2.2.cat=c.m∧(∀a j,(g.2.2.stk a j).length+stL a j ((ss.map StV.m).drop g.1)≤19)∧stK ((ss.map StV.m).take g.1)+stK ((ss.map StV.m).drop g.1)≤2000∧audG (fs.map FlV.m) 0 (led0 sh c.m) (ss.map StV.m)=audG (fs.map FlV.m) g.1 g.2.2 ((ss.map StV.m).drop g.1))
  (fun g=>[(0,ax b4),(1,ax b5),(2,ax b6),(3,ax b7),(4,ax b),(23,ah sad ss.length scap),(24,ac ss.length),(25,ac (g.1:Int))]) (fun g=>obj b4 tInt [ac sh]::obj b5 33 c.cells::obj b6 26 [ah sad ss.length scap]::obj b7 35 [ah fad fs.length fcap]::bkL b sh g.2.1 L) (fun g=>ss.length - g.1) (0,bk0 c ms mt mi mr,led0 sh c.m) ⟨aw _,a7,d3,rfl,rfl,fun a j=>by have:=hS.l a j;show 0+_≤19;rw[List.drop_zero];omega,by have:=hS.k;rw[List.drop_zero,bH];show 0+_≤_;omega,rfl⟩ av (by simp only[bkL,bP];exact ae) ?_
 rintro⟨i,x,S⟩ ⟨hi,hx,hA,c2,b8,hL,hK,ha⟩;dsimp only at hi hx hA c2 b8 hL hK ha ⊢;subst c2;have d4:=hA.g.flows;have e4:=hA.g.steps
 have c8:x.flows.length=S.flows.length:=by
  have:=congrArg List.length hx.flows
  rwa [aA] at this
 have a8:(fs.map FlV.m).length=fs.length:=aA _;simp only[bkL,bP];by_cases c4:i<ss.length
 case neg =>
  obtain rfl:i=ss.length:=ab;have a6:(ss.map StV.m).drop ss.length=[]:=bC (by rw[aA];exact aB _);rw[a6,sJ,a8] at ha;repeat first|((fail_if_success (with_reducible refine G.atS 17 ?_));(with_reducible apply G.seq))|refine bW ?_|intro _|refine cI ?_
  refine G.l0 (α:=Unit) (fun _=>True) (fun _=>[(0,ax b4),(2,ax b6),(96,.bool (dB ((x.flows.length:Int)<(fs.length:Int))))]) (fun _=>obj b4 tInt [ac S.shard]::obj b5 33 c.cells::obj b6 26 [ah sad ss.length scap]::obj b7 35 [ah fad fs.length fcap]::bkL b S.shard x L) ?_ ?_
  ·refine am2 ?_;intros;exact KX.l6 ⟨(),trivial,av,by simp only[bkL,bP];exact ae⟩
  rintro _ _;simp only[bkL,bP];by_cases hq:S.flows.length<fs.length
  ·rw[if_pos hq] at ha;rw[ha];have e0:(x.flows.length:Int)<(fs.length:Int):=ab;refine am2 ?_;intros;refine GO.ev (Ev.n7 rfl rfl ab ab) ag ?_;refine am2 ?_;intros;refine GO.ev (Ev.g9 rfl) ag ?_;refine GO.panic rfl ?_;repeat first|with_reducible apply KX.e8|with_reducible apply KX.d9
   exact KX.e9 ae ⟨(20,S.shard,S.shard*4294967296+(ss.length:Int)),rfl,rfl,rfl⟩
  ·rw[if_neg hq] at ha;rw[ha];have e0:¬(x.flows.length:Int)<(fs.length:Int):=ab;refine am2 ?_;intros;exact KX.l8 al ae ⟨rfl,rfl⟩
 have e1:(i:Int).toNat=i:=aC i;have b1 : (i:Int).toNat<ss.length:=ab;have c0:i<(ss.map StV.m).length:=by rw[aA];exact c4
 have c5:(ss.map StV.m)[i]! = ss[(i:Int).toNat]!.m:=by rw[e1];exact el StV.m c4
 have a6:(ss.map StV.m).drop i=ss[(i:Int).toNat]!.m::(ss.map StV.m).drop (i+1):=by rw[←c5];exact eZ c0
 have e3:stK ((ss.map StV.m).take (i+1))=stK ((ss.map StV.m).take i)+mvK ss[(i:Int).toNat]!.m.moves:=by
  rw[GC c0,c5]
 rw[a6,lh] at ha;rw[a6] at hL hK;have a3:=aI b1;obtain⟨b3,a9⟩:=hS.inp _ a3;have b0:=c9 _ a3;refine G.ent (L':=stM ss[(i:Int).toNat]!::stP ss[(i:Int).toNat]!::obj b4 tInt [ac S.shard]::obj b5 33 c.cells::obj b6 26 [ah sad ss.length scap]::obj b7 35 [ah fad fs.length fcap]::bkL b S.shard x L) ((Ent.under (A:=obj b4 tInt [ac S.shard]::obj b5 33 c.cells::obj b6 26 [ah sad ss.length scap]::obj b7 35 [ah fad fs.length fcap]::bkL b S.shard x []) b0).trans Ent.andE) ?_;simp only[bkL,bP];refine am2 ?_;intros;refine GO.ev (Ev.n7 rfl rfl ab ab) ag ?_;refine am2 ?_;intros;generalize ss[(i:Int).toNat]! = s at *;have f6:stK (s.m::(ss.map StV.m).drop (i+1))=mvK s.m.moves+stK ((ss.map StV.m).drop (i+1)):=rfl;have c6:∀a j,stL a j (s.m::(ss.map StV.m).drop (i+1))=lotsIn a j s.m.moves+stL a j ((ss.map StV.m).drop (i+1)):=fun _ _=>rfl;obtain⟨b9,a4⟩:=rb (s:=s.m) hA ab;obtain⟨z,hz⟩:=nR S s.m;have f3:(cS S s.m).flows.length=S.flows.length+z.length:=by rw[hz,ay]
 have d1:=b9.g.flows;have c7:=b9.g.steps;by_cases c1:s.id=S.shard*4294967296+i
 case neg =>
  rw[if_pos (show s.m.id≠S.shard*4294967296+(i:Int) from c1)] at ha;rw[ha];refine am2 ?_;intros;refine GO.ev (Ev.g9 rfl) ag ?_;refine GO.panic rfl ?_;repeat first|with_reducible apply KX.e8|with_reducible apply KX.d9
  exact KX.e9 ae ⟨(1,S.shard,S.shard*4294967296+(i:Int)),rfl,rfl,rfl⟩
 rw[if_neg (show ¬(s.m.id≠S.shard*4294967296+(i:Int)) from fun q=>q c1)] at ha;refine am2 ?_;intros;rename_i a1;refine GO.ent (L':=bkL b S.shard x (stM s::stP s::obj a1 be (aT s)::obj b4 tInt [ac S.shard]::obj b5 33 c.cells::obj b6 26 [ah sad ss.length scap]::obj b7 35 [ah fad fs.length fcap]::L)) (by simp only[bkL,bP];exact ae) ?_;refine GO.ca (Et b S (stK ((ss.map StV.m).take i)) hA (b8▸hc) s b3 a9 ab (fun a j=>by have:=hL a j;have:=c6 a j;omega) x hx) ?_;rintro _ _⟨rfl,(⟨he,x',b2,rfl⟩|⟨he,rfl⟩)⟩
 case inr =>
  rw[if_pos he] at ha;rw[ha];generalize (gTry S s.m).1=er at *;refine am2 ?_;intros;refine GO.ev (Ev.g9 rfl) ag ?_;refine GO.panic rfl ?_;repeat first|with_reducible apply KX.e8|with_reducible apply KX.d9
  exact KX.e9 ae ⟨(er,S.shard,S.shard*4294967296+(i:Int)),rfl,rfl,rfl⟩
 rw[if_neg (fun q=>q he)] at ha;rw[he]
 have a2 : x'.flows.length=(cS S s.m).flows.length:=by
  have:=congrArg List.length b2.flows
  rwa [aA] at this
 simp only[bkL,bP];repeat first|((fail_if_success (with_reducible refine G.atS 14 ?_));(with_reducible apply G.seq))|refine bW ?_|intro _|refine cI ?_
 refine G.g7 (iq (ad:=x'.fad) (cap:=x'.fcap) (xs:=x'.flows) (enc:=bL) (sz:=11) (E:=cz)) ?_;rintro⟨a5,_⟩
 have c3:(x'.flows.drop x.flows.length).map FlV.m=((fs.drop x.flows.length).take (x'.flows.length - x.flows.length)).map FlV.m↔(cS S s.m).flows.drop S.flows.length=((fs.map FlV.m).drop S.flows.length).take ((cS S s.m).flows.length - S.flows.length):=by
  rw[List.map_drop,List.map_take,List.map_drop,b2.flows,c8,a2]
 refine G.l0 (α:=Bool) (fun r=>r=true↔((fs.map FlV.m).length<(cS S s.m).flows.length∨(cS S s.m).flows.drop S.flows.length≠((fs.map FlV.m).drop S.flows.length).take ((cS S s.m).flows.length - S.flows.length))) (fun r=>[(0,ax b4),(1,ax b5),(2,ax b6),(3,ax b7),(4,ax b),(7,ac (S.shard*4294967296+(i:Int))),(23,ah sad ss.length scap),(24,ac ss.length),(25,ac (i:Int)),(83,.bool r)]) (fun _=>bkL b S.shard x' (stM s::stP s::obj a1 be (aT s)::obj b4 tInt [ac S.shard]::obj b5 33 c.cells::obj b6 26 [ah sad ss.length scap]::obj b7 35 [ah fad fs.length fcap]::L)) ?_ ?_
 ·by_cases q1:fs.length<x'.flows.length
  ·have f1 : (fs.length:Int)<(x'.flows.length:Int):=ab;refine am2 ?_;intros;exact KX.l6 ⟨true,⟨fun _=>.inl (by rw[a8,←a2];exact q1),fun _=>rfl⟩,av,by simp only[bkL,bP];exact ae⟩
  have d2:∀f∈x'.flows.drop x.flows.length,Ent (bkL b S.shard x' (stM s::stP s::obj a1 be (aT s)::obj b4 tInt [ac S.shard]::obj b5 33 c.cells::obj b6 26 [ah sad ss.length scap]::obj b7 35 [ah fad fs.length fcap]::L)) (flP f::bkL b S.shard x' (stM s::stP s::obj a1 be (aT s)::obj b4 tInt [ac S.shard]::obj b5 33 c.cells::obj b6 26 [ah sad ss.length scap]::obj b7 35 [ah fad fs.length fcap]::L)):=fun f hf=>by
   simp only[bkL,bP];refine(Ent.at (A:=allP flP x'.flows) (Ent.e7 (f:=flP) (gM hf))).trans ?_;exact ae
  have a7:∀f∈(fs.drop x.flows.length).take (x'.flows.length - x.flows.length),Ent (bkL b S.shard x' (stM s::stP s::obj a1 be (aT s)::obj b4 tInt [ac S.shard]::obj b5 33 c.cells::obj b6 26 [ah sad ss.length scap]::obj b7 35 [ah fad fs.length fcap]::L)) (flP f::bkL b S.shard x' (stM s::stP s::obj a1 be (aT s)::obj b4 tInt [ac S.shard]::obj b5 33 c.cells::obj b6 26 [ah sad ss.length scap]::obj b7 35 [ah fad fs.length fcap]::L)):=fun f hf=>Ent.under (A:=bkL b S.shard x' (stM s::stP s::obj a1 be (aT s)::obj b4 tInt [ac S.shard]::obj b5 33 c.cells::obj b6 26 [ah sad ss.length scap]::obj b7 35 [ah fad fs.length fcap]::[])) (e2 f (gM (dv hf)));have f0:Rds (bkL b S.shard x' (stM s::stP s::obj a1 be (aT s)::obj b4 tInt [ac S.shard]::obj b5 33 c.cells::obj b6 26 [ah sad ss.length scap]::obj b7 35 [ah fad fs.length fcap]::L)) (advA x'.fad x'.fcap 11 x.flows.length) FlV bL 11 (x'.flows.drop x.flows.length):=Rds.drop inferInstance a5 _;have f5:Rds (bkL b S.shard x' (stM s::stP s::obj a1 be (aT s)::obj b4 tInt [ac S.shard]::obj b5 33 c.cells::obj b6 26 [ah sad ss.length scap]::obj b7 35 [ah fad fs.length fcap]::L)) (advA fad fcap 11 x.flows.length) FlV bL 11 ((fs.drop x.flows.length).take (x'.flows.length - x.flows.length)):=Rds.take (Rds.drop inferInstance d6 _) _;refine am2 ?_;intros;rw[show(Int.toNat (x.flows.length:Int))=x.flows.length from aC _,show(Int.toNat (x'.flows.length:Int))=x'.flows.length from aC _];refine GPW.cr (Ge (advA x'.fad x'.fcap 11 x.flows.length) (advA fad fcap 11 x.flows.length) (x'.flows.length - x.flows.length) (x'.flows.length - x.flows.length) (x'.fcap - x.flows.length) (fcap - x.flows.length) (x'.flows.drop x.flows.length) ((fs.drop x.flows.length).take (x'.flows.length - x.flows.length)) (by rw[dQ]) (by rw[bG,dQ];omega) (by have:=hF.len;rw[bG,dQ];omega) (fun f hf=>hF.fl f (gM (dv hf))) d2 a7) ?_;by_cases q2:(x'.flows.drop x.flows.length).map FlV.m=((fs.drop x.flows.length).take (x'.flows.length - x.flows.length)).map FlV.m
  ·rw[aS q2];refine am2 ?_;intros;refine KX.l6 ⟨false,⟨fun q=>absurd q ag,fun q=>?_⟩,av,by simp only[bkL,bP];exact ae⟩;rcases q with q|q
   ·rw[a8,←a2] at q;exact absurd q q1
   ·exact absurd (c3.1 q2) q
  ·rw[aG q2];refine am2 ?_;intros;exact KX.l6 ⟨true,⟨fun _=>.inr (fun q=>q2 (c3.2 q)),fun _=>rfl⟩,av,by simp only[bkL,bP];exact ae⟩
 intro r hr;simp only[bkL,bP];by_cases a0:((fs.map FlV.m).length<(cS S s.m).flows.length∨(cS S s.m).flows.drop S.flows.length≠((fs.map FlV.m).drop S.flows.length).take ((cS S s.m).flows.length - S.flows.length))
 ·rw[if_pos a0] at ha;rw[ha];obtain rfl:=hr.2 a0;refine am2 ?_;intros;refine GO.ev (Ev.g9 rfl) ag ?_;refine GO.panic rfl ?_;repeat first|with_reducible apply KX.e8|with_reducible apply KX.d9
  exact KX.e9 ae ⟨(20,S.shard,S.shard*4294967296+(i:Int)),rfl,rfl,rfl⟩
 rw[if_neg a0] at ha
 obtain rfl:r=false:=by
  cases r with
  | false=>rfl
  | true=>exact absurd (hr.1 rfl) a0
 refine am2 ?_;intros;refine⟨(i+1,x',cS S s.m),⟨by dsimp only;omega,b2,by dsimp only;rw[e3];exact b9,rF S s.m,(nw S s.m).trans b8,fun a j=>?_,by dsimp only;omega,ha⟩,by dsimp only;omega,?_,?_⟩
 ·have g1:=hL a j;have g2:=c6 a j;have g3:=a4 a j;dsimp only;omega
 ·dsimp only;rw[aV i];exact av
 ·exact ae
def pH{L:LH}(sh:Int)(c:CatV)(hB:c.B)(hc:c.m.Ok)(sad:OA)(n scap:Nat)(ss:List StV)[a5:Rds L sad StV aT 7 ss](hn:n=ss.length)(hS:AudS ss)(a3:∀s∈ss,Ent L (cC s::L))(fad:OA)(n2 fcap:Nat)(fs:List FlV)[a6:Rds L fad FlV bL 11 fs](a1:n2=fs.length)(hF:AudFl fs)(a2:fs.length≤fcap)(a4:∀f∈fs,Ent L (flP f::L)) :
  Tri ai 14 #[ac sh,aN c.cells,ah sad n scap,ah fad n2 fcap] (catP c::L) (fun v L'=>v=aN (gA (audF sh c.m (ss.map StV.m) (fs.map FlV.m)))∧L' = L):=by
 refine Tri.bd ?_;refine Jq ?_;intros;rename_i b4 b5 b6 b7 b8;refine GO.ent (L':=obj b4 tInt [ac sh]::obj b5 33 c.cells::obj b6 26 [ah sad n scap]::obj b7 35 [ah fad n2 fcap]::catP c::obj b8 tFnd [ac 0,ac 0,ac 0]::L) ae ?_;refine GO.ca (El 44 [ax b4,ax b5,ax b6,ax b7] (fun L'=>audF sh c.m (ss.map StV.m) (fs.map FlV.m)=(0,0,0)∧L' = obj b8 tFnd [ac 0,ac 0,ac 0]::L) (fun x L'=>x=audF sh c.m (ss.map StV.m) (fs.map FlV.m)∧L' = obj b8 tFnd [ac 0,ac 0,ac 0]::L) (xT (L:=obj b8 tFnd [ac 0,ac 0,ac 0]::L) b4 b5 b6 b7 sh c hB hc sad n scap ss hn hS (fun s hs=>Ent.under (A:=[obj b8 tFnd [ac 0,ac 0,ac 0]]) (a3 s hs)) fad n2 fcap fs a1 hF a2 (fun f hf=>Ent.under (A:=[obj b8 tFnd [ac 0,ac 0,ac 0]]) (a4 f hf)))) ?_;rintro _ _⟨x,rfl,hx⟩;rcases hx with⟨a0,h1,rfl⟩|⟨a0,rfl⟩
 ·subst a0;rw[h1];refine Jq ?_;intros;exact KX.d7 (by exact ResOk.cell rfl aK (ResOk.nil)) ae ⟨rfl,rfl⟩
 rw[←a0];clear a0;refine Jq ?_;intros;exact KX.d7 (by exact ResOk.cell rfl aK (ResOk.nil)) ae ⟨rfl,rfl⟩
end
section
open Go.V
abbrev exVS(p0:OA)(c0:Nat)(a0:OA)(k0:Nat):StV:=⟨0,0,0,0,-1,0,[⟨⟨0,1,0,5,[]⟩,p0,c0⟩],a0,k0⟩
abbrev exVT(n:Int)(p1:OA)(c1:Nat)(a1:OA)(k1:Nat):StV:=⟨1,2,0,0,-1,0,[⟨⟨1,2,0,n,[]⟩,p1,c1⟩],a1,k1⟩
def HY{ss:List StV}(h:ss.map StV.m=exL2.steps):∃p0 c0 a0 k0 p1 c1 a1 k1,ss=[exVS p0 c0 a0 k0,exVT 3 p1 c1 a1 k1]:=by
 have h' : ss.map StV.m=[exS,(exT 3).at 1]:=h;obtain⟨s0,l1,rfl,e0,h1⟩:=List.map_eq_cons_iff.1 h';obtain⟨s1,l2,rfl,e1,h2⟩:=List.map_eq_cons_iff.1 h1;obtain rfl:l2=[]:=List.map_eq_nil_iff.1 h2
 have one:∀{ms:List MvV} {m:MvM},ms.map MvV.m=[m]→∃p c,ms=[⟨m,p,c⟩]:=fun {ms m} q=>by
  obtain⟨⟨u,p,c⟩,l,rfl,e,h3⟩:=List.map_eq_cons_iff.1 q;obtain rfl:l=[]:=List.map_eq_nil_iff.1 h3;obtain rfl:u=m:=e;exact⟨p,c,rfl⟩
 obtain⟨x1,x2,x3,x4,x5,x6,a2,a0,k0⟩:=s0;obtain⟨y1,y2,y3,y4,y5,y6,a3,a1,k1⟩:=s1;have g0:=StM.mk.inj e0;have g1:=StM.mk.inj e1;obtain⟨p0,c0,rfl⟩:=one g0.2.2.2.2.2.2;obtain⟨p1,c1,rfl⟩:=one g1.2.2.2.2.2.2;obtain⟨rfl,rfl,rfl,rfl,rfl,rfl,_⟩:=g0;obtain⟨rfl,rfl,rfl,rfl,rfl,rfl,_⟩:=g1;exact⟨p0,c0,a0,k0,p1,c1,a1,k1,rfl⟩
def Iu{fs:List FlV}(h:fs.map FlV.m=exL2.flows):∃p0 c0 m0 k0 p1 c1 m1 k1,fs=[⟨exF0,p0,c0,m0,k0⟩,⟨exF1 0,p1,c1,m1,k1⟩]:=by
 have h' : fs.map FlV.m=[exF0,exF1 0]:=h;obtain⟨⟨u0,p0,c0,m0,k0⟩,l1,rfl,e0,h1⟩:=List.map_eq_cons_iff.1 h';obtain⟨⟨u1,p1,c1,m1,k1⟩,l2,rfl,e1,h2⟩:=List.map_eq_cons_iff.1 h1;obtain rfl:l2=[]:=List.map_eq_nil_iff.1 h2;obtain rfl:u0=exF0:=e0;obtain rfl:u1=exF1 0:=e1;exact⟨p0,c0,m0,k0,p1,c1,m1,k1,rfl⟩
def Ix{p0 c0 a0 k0}(hk:1≤k0):StInG (exVS p0 c0 a0 k0)∧(exVS p0 c0 a0 k0).moves.length≤(exVS p0 c0 a0 k0).mcap :=
 ⟨⟨by show 1≤1000000;decide,by unfold I64;show -9223372036854775808≤-1∧(-1:Int)≤9223372036854775807;decide,fun m hm=>by rw[List.mem_singleton.1 hm];exact aw _,fun m hm=>by rw[List.mem_singleton.1 hm];exact aw _,fun m hm p hp=>by rw[List.mem_singleton.1 hm] at hp;cases hp⟩,hk⟩
def Iw{n p1 c1 a1 k1}(hk:1≤k1):StInG (exVT n p1 c1 a1 k1)∧(exVT n p1 c1 a1 k1).moves.length≤(exVT n p1 c1 a1 k1).mcap :=
 ⟨⟨by show 1≤1000000;decide,by unfold I64;show -9223372036854775808≤-1∧(-1:Int)≤9223372036854775807;decide,fun m hm=>by rw[List.mem_singleton.1 hm];exact aw _,fun m hm=>by rw[List.mem_singleton.1 hm];exact aw _,fun m hm p hp=>by rw[List.mem_singleton.1 hm] at hp;cases hp⟩,hk⟩
def EU(a i:Int):∀l:List StM,stL a i l≤stK l
 | []=>aB _
 | s::l=>by
  have h1:=EU a i l;have h2:=vi a i s.moves;show lotsIn a i s.moves+stL a i l≤mvK s.moves+stK l;omega
def Gb{n p0 c0 a0 k0 p1 c1 a1 k1}(h0:1≤k0)(h1:1≤k1):AudS [exVS p0 c0 a0 k0,exVT n p1 c1 a1 k1]:=by
 have e:stK ([exVS p0 c0 a0 k0,exVT n p1 c1 a1 k1].map StV.m)=2:=rfl;refine⟨by show 2≤60000;decide,fun s hs=>?_,by rw[e];decide,fun a i=>cK (EU a i _) (by rw[e];decide)⟩;rcases List.mem_cons.1 hs with rfl|hs
 ·exact Ix h0
 ·rw[List.mem_singleton.1 hs];exact Iw h1
def BO{a p0 c0 m0 k0 p1 c1 m1 k1}:AudFl [⟨exF0,p0,c0,m0,k0⟩,⟨exF1 a,p1,c1,m1,k1⟩]:=by
 refine⟨by show 2≤1000000000;decide,fun s hs=>?_⟩;rcases List.mem_cons.1 hs with rfl|hs
 ·exact⟨by show 0≤1000000000;decide,by show 0≤1000000000;decide⟩
 ·rw[List.mem_singleton.1 hs];exact⟨by show 1≤1000000000;decide,by show 0≤1000000000;decide⟩
def HE{p0 c0 a0 k0 p1 c1 a1 k1}:fD [exVS p0 c0 a0 k0,exVT 3 p1 c1 a1 k1]=[⟨0,1,0,5,[]⟩,⟨1,2,0,3,[]⟩]:=rfl
def Jh{p0 c0 a0 k0 p1 c1 a1 k1}:resT 4 [exVS p0 c0 a0 k0,exVT 3 p1 c1 a1 k1]=(0,[5,0,0,0]):=by
 unfold resT;rw[HE];rfl
def Jj{p0 c0 a0 k0 p1 c1 a1 k1}:(resH 4 [exVS p0 c0 a0 k0,exVT 3 p1 c1 a1 k1]).1=0∧HoldL (resH 4 [exVS p0 c0 a0 k0,exVT 3 p1 c1 a1 k1]).2 [(1,0,2),(2,0,3)]:=by
 have e:resH 4 [exVS p0 c0 a0 k0,exVT 3 p1 c1 a1 k1]=(0,updH (updH (updH (fun _ _=>0) 1 0 5) 1 0 2) 2 0 3):=by
  unfold resH;rw[HE];rfl
 rw[e];refine⟨rfl,⟨?_,fun h=>?_⟩⟩
 ·refine List.pairwise_cons.2 ⟨fun y hy=>?_,bE _ _⟩;rw[List.mem_singleton.1 hy];exact .inl ag
 ·obtain⟨a,i,n⟩:=h;simp only[updH,bj,aU,or_false,Prod.mk.injEq];constructor
  ·rintro (⟨rfl,rfl,rfl⟩|⟨rfl,rfl,rfl⟩)
   ·exact⟨rfl,by decide⟩
   ·exact⟨rfl,by decide⟩
  ·rintro⟨q1,q2⟩;by_cases g1:a=2∧i=0
   ·rw[if_pos g1] at q1;exact .inr ⟨g1.1,g1.2,q1⟩
   ·rw[if_neg g1] at q1;by_cases g2:a=1∧i=0
    ·rw[if_pos g2] at q1;exact .inl ⟨g2.1,g2.2,q1⟩
    ·rw[if_neg g2,if_neg g2] at q1;exact absurd q1 q2
end
end Go.Proofs.YtommnllbflbdmaaGreatDoor
namespace Go.V
section
open Go.Sort Go.Proofs
def Frz(L L' : LH):Prop:=∀ι h,Hp.disj ι h→Stars L ι h→Stars L' (Hp.d9 ι h) Hp.emp
def Frz.nil:Frz [] []:=fun _ _ _ _=>trivial
def tO{ι h:Hp}(hd:Hp.disj ι h){b:Nat}{o:Obj}(hb:h b=some o):Hp.d9 ι h b=some o:=by
 unfold Hp.d9;cases hi:ι b with
 | none=>exact hb
 | some x=>have:=hd b x hi;rw[hb] at this;cases this
def vm{ι h h2:Hp}(hs:Hp.sub h2 h):Hp.sub (Hp.d9 ι h2) (Hp.d9 ι h):=fun k o hk=>by
 unfold Hp.d9 at hk ⊢;cases hi:ι k with
 | some x=>rw[hi] at hk;exact hk
 | none=>rw[hi] at hk;exact hs k o hk
def pj{ι h h2:Hp}(hd:Hp.disj ι h)(hs:Hp.sub h2 h):Hp.disj ι h2:=fun k o hk=>by
 have h5:=hd k o hk;cases h6:h2 k with
 | none=>rfl
 | some o2=>rw[hs k o2 h6] at h5;cases h5
def Frz.cons{p p' : HP}{L L' : LH}(hp:∀ι₀ ι h₁ h,Hp.disj ι h→Hp.sub h₁ h→p ι₀ h₁→p' (Hp.d9 ι h) Hp.emp)(hL:Frz L L'):Frz (p::L) (p'::L'):=by
 rintro ι h hd ⟨ι₀,h₁,h₂,a,b,c,d,e,f⟩;exact⟨Hp.d9 ι h,Hp.emp,Hp.emp,Hp.sub.refl _,Hp.d8 _,Hp.sub.refl _,Hp.sub.refl _,hp ι₀ ι h₁ h hd c e,(hL ι h₂ (pj hd d) f).mono (vm d) (Hp.sub.refl _)⟩
abbrev encL(l:LV):LV:=l
def Frz.obj{b T n:Nat}{cs:LV}{L L' : LH}(hn:cs.length=n)(hL:Frz L L'):Frz (V.obj b T cs::L) (isl encL n (some ⟨b,0,none⟩) [cs]::L') :=
 Frz.cons (fun _ ι h₁ h hd hs hp=>by
  refine⟨fun x hx=>by rw[List.mem_singleton.1 hx];exact hn,.inr ⟨b,0,cs.toArray,T,(0,0),rfl,tO hd (hs b _ hp),fun i v hv=>?_⟩⟩;simpa using hv) hL
def Frz.osl{α:Type}{enc:α→LV}{sz E:Nat}{ad:OA}{cap:Nat}{xs:List α}{L L' : LH}(hL:Frz L L'):Frz (V.osl enc sz E ad cap xs::L) (isl enc sz ad xs::L') :=
 Frz.cons (fun _ ι h₁ h hd hs hp=>by
  obtain⟨h1,h2,h3,h4⟩:=hp;refine⟨h1,?_⟩;rcases h4 with⟨_,h5⟩|⟨g,a0,h5,h6,h7,h8⟩
  ·exact .inl (aX ab)
  ·refine .inr ⟨g,0,a0,E,(0,0),h5,tO hd (hs g _ h6),fun i v hv=>?_⟩;rw[←h8,List.getElem?_take] at hv;split at hv
   ·rw[dq];simpa using hv
   ·cases hv) hL
end
section
open Go.Proofs
def held(a b:Hp):HP:=fun ι h=>Hp.sub a ι∧Hp.sub b h
def Frz.pers{p:HP}{L L' : LH}(hm:∀ι ι' h,Hp.sub ι ι'→p ι h→p ι' Hp.emp)(hL:Frz L L'):Frz (p::L) (p::L'):=by
 rintro ι h hd ⟨ι₀,h₁,h₂,a,b,c,d,e,f⟩;exact⟨Hp.d9 ι h,Hp.emp,Hp.emp,Hp.sub.refl _,Hp.d8 _,Hp.sub.refl _,Hp.sub.refl _,hm ι₀ _ h₁ (a.trans (Hp.e7 _ _)) e,(hL ι h₂ (pj hd d) f).mono (vm d) (Hp.sub.refl _)⟩
def Stars.d8{p:HP}(hp:∀ι ι' h,p ι h→p ι' h){ι ι' h:Hp}(s:Stars [p] ι h):Stars [p] ι' h:=by
 obtain⟨ι₀,x1,x2,_,n2,n3,n4,e,_⟩:=s;exact⟨ι',x1,x2,Hp.sub.refl _,n2,n3,n4,hp _ _ _ e,trivial⟩
def Ent.n5{α:Type}{enc:α→LV}{sz:Nat}{ad:OA}{xs ys:List α}{L:LH}(h:xs.map enc=ys.map enc):Ent (isl enc sz ad xs::L) (isl enc sz ad ys::L):=by
 have e:isl enc sz ad xs=isl enc sz ad ys:=by
  have h1:xs.flatMap enc=ys.flatMap enc:=by rw[List.flatMap_def,List.flatMap_def,h]
  have h2:∀p:LV→Prop,(∀x∈xs,p (enc x))↔(∀x∈ys,p (enc x)):=fun p=>by
   have g:∀l:List α,(∀x∈l,p (enc x))↔∀u∈l.map enc,p u:=fun l=>by simp
   rw[g,g,h]
  have h3:xs=[]↔ys=[]:=by
   rw[←List.map_eq_nil_iff (f:=enc),h,List.map_eq_nil_iff]
  unfold isl;funext i w;rw[h1,h3,propext (h2 (fun l=>l.length=sz))]
 rw[e];exact Ent.refl _
def Tri.reads{P:Program}{f:FuncId}{args:Array Value}{α:Type}{φ:Value→α→Prop}{Res:α→LH}{L Lf M:LH}(a0:∀x ι ι' h,Stars (Res x) ι h→Stars (Res x) ι' h)
  (h:Tri P f args Lf (fun v L'=>∃x X,φ v x∧L' = Res x++X)) (a6:Frz L Lf):Tri P f args (L++M) (fun v L'=>∃x,φ v x∧L' = Res x++(L++M)):=by
 refine⟨h.enters,fun θ R w s=>?_⟩;obtain⟨ok,ι,hp,a,b,c,st⟩:=s;rw[aH] at st;obtain⟨h1,h2,d1,d2,d3,s1,s2⟩:=Stars.split st;have a1:Hp.disj ι h1:=pj a d2;have a2:Hp.disj ι h2:=pj a d3;have hf:Stars Lf (Hp.d9 ι h1) Hp.emp:=a6 ι h1 a1 s1;have hX:Stars [held (Hp.d9 ι h1) h2] (Hp.d9 ι h1) h2:=⟨Hp.d9 ι h1,h2,Hp.emp,Hp.sub.refl _,(Hp.d8 _).symm,Hp.sub.refl _,Hp.d7 _,⟨Hp.sub.refl _,Hp.sub.refl _⟩,trivial⟩;have s0:Sat θ (Lf++[held (Hp.d9 ι h1) h2]) w:=⟨ok,Hp.d9 ι h1,h2,(Hp.e9 a2.symm d1.symm).symm,Hp.f7 b (d2.trans c),d3.trans c,Stars.d7 (Hp.d8 _) (Hp.d7 _) (Hp.sub.refl _) hf hX⟩;refine(h.calls θ _ w s0).mono ?_;rintro e w' ⟨v,L',rfl,⟨x,X,hφ,rfl⟩,s'⟩;obtain⟨a9,ι',a7,a',b',c',a4⟩:=s';rw[aH] at a4;obtain⟨g1,g2,e1,e2,e3,sr,b0⟩:=Stars.split a4;obtain⟨k1,k2,_,_,m3,_,sX⟩:=Stars.split b0;obtain⟨ι₀,x1,x2,n1,n2,n3,n4,⟨X1,X2⟩,_⟩:=sX;have hj:Hp.sub (Hp.d9 ι h1) ι':=X1.trans n1;have hi:Hp.sub ι ι':=(Hp.e7 _ _).trans hj;have a3:Hp.sub h1 ι':=(Hp.e8 a1).trans hj;have a5:Hp.sub h2 g2:=(X2.trans n3).trans m3;have a8:Hp.sub h2 a7:=a5.trans e3;have z1:Hp.disj g1 h1:=(a'.mono a3 e2).symm;have z2:Hp.disj g1 h2:=e1.mono (Hp.sub.refl _) a5;have z3:Hp.disj g1 (Hp.d9 h1 h2):=Hp.e9 z1 z2;refine⟨v,Res x++(L++M),rfl,⟨x,hφ,rfl⟩,a9,ι,Hp.d9 g1 (Hp.d9 h1 h2),?_,hi.trans b',?_,?_⟩
 ·exact Hp.e9 (a'.mono hi e2) (Hp.e9 a1 a2)
 ·exact Hp.f7 (e2.trans c') (Hp.f7 (a3.trans b') (a8.trans c'))
 ·rw[aH,aH];exact Stars.d7 z3 (Hp.e7 _ _) (Hp.e8 z3) (a0 x ι' ι g1 sr) (Stars.d7 d1 (Hp.e7 _ _) (Hp.e8 d1) s1 s2)
end
section
def Frz.d7{p:HP}{L L' : LH}(pm:PersM p)(hL:Frz L L'):Frz (p::L) (p::L'):=Frz.pers (fun ι ι' h hi hp=>pm.mono ι ι' _ hi (pm.pers _ _ hp)) hL
end
end Go.V
namespace Go.Proofs.YtommnllbflbdmaaGreatDoor
open Go.V
abbrev Ji(c:CatV)(sad fad:OA)(s0 s1:StV)(f0 f1:FlV):LH :=
 [osl aM 5 tMv s1.mad s1.mcap s1.moves,osl aj 3 tLot f1.pad f1.pcap f1.m.parts,isl aT 7 sad [s0,s1],isl bL 11 fad [f0,f1],isl aM 5 s0.mad s0.moves,stP s0,stP s1,isl aj 3 f0.pad f0.m.parts,isl (encZ .i64) 1 f0.mad f0.m.made,isl (encZ .i64) 1 f1.mad f1.m.made,catP c]
abbrev je(c:CatV)(sad fad:OA)(s0 s1:StV)(f0 f1:FlV)(M:LH):LH :=
 osl aM 5 tMv s1.mad s1.mcap s1.moves::osl aj 3 tLot f1.pad f1.pcap f1.m.parts::isl aT 7 sad [s0,s1]::isl bL 11 fad [f0,f1]::isl aM 5 s0.mad s0.moves::stP s0::stP s1::isl aj 3 f0.pad f0.m.parts::isl (encZ .i64) 1 f0.mad f0.m.made::isl (encZ .i64) 1 f1.mad f1.m.made::catP c::M
abbrev Ec(c:CatV)(sad fad:OA)(s0 s1:StV)(f0 f1:FlV):LH :=
 [isl aM 5 s1.mad s1.moves,isl aj 3 f1.pad f1.m.parts,isl aT 7 sad [s0,s1],isl bL 11 fad [f0,f1],isl aM 5 s0.mad s0.moves,stP s0,stP s1,isl aj 3 f0.pad f0.m.parts,isl (encZ .i64) 1 f0.mad f0.m.made,isl (encZ .i64) 1 f1.mad f1.m.made,catP c]
def sD(c:CatV)(sad fad:OA)(s0 s1:StV)(f0 f1:FlV):Frz (Ji c sad fad s0 s1 f0 f1) (Ec c sad fad s0 s1 f0 f1) :=
 Frz.osl (Frz.osl (Frz.d7 (bN _ _ _ _) (Frz.d7 (bN _ _ _ _) (Frz.d7 (bN _ _ _ _) (Frz.d7 (cT iP) (Frz.d7 (cT iP) (Frz.d7 (bN _ _ _ _) (Frz.d7 (bN _ _ _ _) (Frz.d7 (bN _ _ _ _) (Frz.d7 (mo c) Frz.nil))))))))))
def sC(c:CatV)(sad fad:OA)(s0 s1:StV)(f0 f1:FlV):Ent (Ec c sad fad s0 s1 f0 f1) [allP cC [s0,s1],isl aT 7 sad [s0,s1],isl bL 11 fad [f0,f1],isl aj 3 f1.pad f1.m.parts,isl aj 3 f0.pad f0.m.parts,isl (encZ .i64) 1 f0.mad f0.m.made,isl (encZ .i64) 1 f1.mad f1.m.made,catP c]:=by
 refine Ent.trans (B:=stM s1::stP s1::[stM s0,stP s0,isl aT 7 sad [s0,s1],isl bL 11 fad [f0,f1],isl aj 3 f1.pad f1.m.parts,isl aj 3 f0.pad f0.m.parts,isl (encZ .i64) 1 f0.mad f0.m.made,isl (encZ .i64) 1 f1.mad f1.m.made,catP c]) ae ?_;refine(Ent.e9 (oF s1) (cT iP)).trans ((Ent.f8 (f:=cC) kQ).trans ?_);refine Ent.trans (B:=stM s0::stP s0::[allP cC [s1],isl aT 7 sad [s0,s1],isl bL 11 fad [f0,f1],isl aj 3 f1.pad f1.m.parts,isl aj 3 f0.pad f0.m.parts,isl (encZ .i64) 1 f0.mad f0.m.made,isl (encZ .i64) 1 f1.mad f1.m.made,catP c]) ae ?_;exact(Ent.e9 (oF s0) (cT iP)).trans (Ent.g9 (f:=cC) kQ)
def Hq(c:CatV)(sad fad:OA)(s0 s1:StV)(f0 f1:FlV):Ent (Ec c sad fad s0 s1 f0 f1) [catP c,allP flP [f0,f1],allP cC [s0,s1],isl aT 7 sad [s0,s1],isl bL 11 fad [f0,f1]]:=by
 refine(sC c sad fad s0 s1 f0 f1).trans ?_;refine Ent.trans (B:=isl aj 3 f1.pad f1.m.parts::isl (encZ .i64) 1 f1.mad f1.m.made::[isl aj 3 f0.pad f0.m.parts,isl (encZ .i64) 1 f0.mad f0.m.made,catP c,allP cC [s0,s1],isl aT 7 sad [s0,s1],isl bL 11 fad [f0,f1]]) ae ?_;refine Ent.trans (Ent.e9 (bN _ _ _ _) (bN _ _ _ _)) ((Ent.f8 (f:=flP) (x:=f1) kG).trans ?_);refine Ent.trans (B:=isl aj 3 f0.pad f0.m.parts::isl (encZ .i64) 1 f0.mad f0.m.made::[allP flP [f1],catP c,allP cC [s0,s1],isl aT 7 sad [s0,s1],isl bL 11 fad [f0,f1]]) ae ?_;refine Ent.trans (Ent.e9 (bN _ _ _ _) (bN _ _ _ _)) ((Ent.g9 (f:=flP) (x:=f0) kG).trans ae)
def qN{M:LH}(c:CatV)(hB:c.B)(hc:c.m.Ok)(sad fad:OA)(scap fcap:Nat)(s0 s1:StV)(f0 f1:FlV)(hS:AudS [s0,s1])(hF:AudFl [f0,f1])(a0:2≤fcap) :
  Tri ai 14 #[ac 0,aN c.cells,ah sad 2 scap,ah fad 2 fcap] (je c sad fad s0 s1 f0 f1 M) (fun v L'=>v=aN (gA (audF 0 c.m [s0.m,s1.m] [f0.m,f1.m]))∧L' = je c sad fad s0 s1 f0 f1 M):=by
 have h:=pH (L:=[allP flP [f0,f1],allP cC [s0,s1],isl aT 7 sad [s0,s1],isl bL 11 fad [f0,f1]]) 0 c hB hc sad 2 scap [s0,s1] rfl hS (fun s hs=>(Ent.at (A:=allP cC [s0,s1]) (Ent.e7 (f:=cC) hs)).trans ae) fad 2 fcap [f0,f1] rfl hF a0 (fun f hf=>Ent.e7 (f:=flP) hf |>.trans ae);have h2:=(h.pre (Hq c sad fad s0 s1 f0 f1)).mono (post':=fun v L'=>∃(x:Unit) (X:LH),v=aN (gA (audF 0 c.m [s0.m,s1.m] [f0.m,f1.m]))∧L' = ([]:LH)++X) (fun v L' q=>⟨(),L',q.1,rfl⟩);exact(Tri.reads (Res:=fun _:Unit=>[]) (M:=M) (fun _ _ _ _ _=>trivial) h2 (sD c sad fad s0 s1 f0 f1)).mono (fun v L' ⟨_,q1,q2⟩=>⟨q1,q2⟩)
def Cg{M:LH}(items:Int)(c:CatV)(sad fad:OA)(scap:Nat)(s0 s1:StV)(f0 f1:FlV)(hm:∀s∈[s0,s1],s.moves.length≤1000000) :
  Tri ai 17 #[ac items,ah sad 2 scap] (je c sad fad s0 s1 f0 f1 M) (fun v L'=>∃x:OA×Nat,v=.tuple #[ah x.1 (resT items [s0,s1]).2.length x.2,ac (resT items [s0,s1]).1]∧L' = osl (encZ .i64) 1 tInt x.1 x.2 (resT items [s0,s1]).2::(je c sad fad s0 s1 f0 f1 M)):=by
 have h:=pB (L:=[isl aT 7 sad [s0,s1],isl bL 11 fad [f0,f1],isl aj 3 f1.pad f1.m.parts,isl aj 3 f0.pad f0.m.parts,isl (encZ .i64) 1 f0.mad f0.m.made,isl (encZ .i64) 1 f1.mad f1.m.made,catP c]) items sad 2 scap [s0,s1] rfl (by show 2≤1000000;decide) hm;have h2:=(h.pre (sC c sad fad s0 s1 f0 f1)).mono (post':=fun v L'=>∃(x:OA×Nat) (X:LH),v=.tuple #[ah x.1 (resT items [s0,s1]).2.length x.2,ac (resT items [s0,s1]).1]∧L' = [osl (encZ .i64) 1 tInt x.1 x.2 (resT items [s0,s1]).2]++X) (fun v L' ⟨a1,a0,q1,q2⟩=>⟨(a1,a0),_,q1,q2⟩);exact Tri.reads (Res:=fun x:OA×Nat=>[osl (encZ .i64) 1 tInt x.1 x.2 (resT items [s0,s1]).2]) (M:=M) (fun _ _ _ _ q=>Stars.d8 (fun _ _ _ z=>z) q) h2 (sD c sad fad s0 s1 f0 f1)
def xY{M:LH}(items:Int)(c:CatV)(sad fad:OA)(scap:Nat)(s0 s1:StV)(f0 f1:FlV)(hm:(fD [s0,s1]).length≤100000) :
  Tri ai 19 #[ac items,ah sad 2 scap] (je c sad fad s0 s1 f0 f1 M) (fun v L'=>∃x:OA×Nat×List Hd,(v=.tuple #[ah x.1 x.2.2.length x.2.1,ac (resH items [s0,s1]).1]∧(x.2.2.length≤200000∧if(resH items [s0,s1]).1=0 then HoldL (resH items [s0,s1]).2 x.2.2 else x.2.2=[]))∧L' = osl fj 3 tHd x.1 x.2.1 x.2.2::(je c sad fad s0 s1 f0 f1 M)):=by
 have h:=nu (L:=[isl aT 7 sad [s0,s1],isl bL 11 fad [f0,f1],isl aj 3 f1.pad f1.m.parts,isl aj 3 f0.pad f0.m.parts,isl (encZ .i64) 1 f0.mad f0.m.made,isl (encZ .i64) 1 f1.mad f1.m.made,catP c]) items sad 2 scap [s0,s1] rfl (by show 2≤1000000;decide) hm;have h2:=(h.pre (sC c sad fad s0 s1 f0 f1)).mono (post':=fun v L'=>∃(x:OA×Nat×List Hd) (X:LH),(v=.tuple #[ah x.1 x.2.2.length x.2.1,ac (resH items [s0,s1]).1]∧(x.2.2.length≤200000∧if(resH items [s0,s1]).1=0 then HoldL (resH items [s0,s1]).2 x.2.2 else x.2.2=[]))∧L' = [osl fj 3 tHd x.1 x.2.1 x.2.2]++X) (fun v L' ⟨a1,a0,hs,q1,q2,q3⟩=>⟨(a1,a0,hs),_,⟨q1,q2⟩,q3⟩);exact Tri.reads (Res:=fun x:OA×Nat×List Hd=>[osl fj 3 tHd x.1 x.2.1 x.2.2]) (M:=M) (fun _ _ _ _ q=>Stars.d8 (fun _ _ _ z=>z) q) h2 (sD c sad fad s0 s1 f0 f1)
def DZ{s0 s1:StV}{L:LH}:Ent (bigO stO [s0,s1]::L) (osl aM 5 tMv s0.mad s0.mcap s0.moves::stP s0::osl aM 5 tMv s1.mad s1.mcap s1.moves::stP s1::L) :=
 Ent.bigO_uncons.trans ((Ent.unstars2 (A:=osl aM 5 tMv s0.mad s0.mcap s0.moves) (B:=stP s0)).trans (Ent.d7 (Ent.d7 (Ent.bigO_uncons.trans ((Ent.unstars2 (A:=osl aM 5 tMv s1.mad s1.mcap s1.moves) (B:=stP s1)).trans (Ent.d7 (Ent.d7 Ent.drop)))))))
def Ea{f0 f1:FlV}{L:LH}:Ent (bigO flO [f0,f1]::L) (osl aj 3 tLot f0.pad f0.pcap f0.m.parts::osl (encZ .i64) 1 tInt f0.mad f0.mcap f0.m.made::osl aj 3 tLot f1.pad f1.pcap f1.m.parts::osl (encZ .i64) 1 tInt f1.mad f1.mcap f1.m.made::L) :=
 Ent.bigO_uncons.trans ((Ent.unstars2 (A:=osl aj 3 tLot f0.pad f0.pcap f0.m.parts) (B:=osl (encZ .i64) 1 tInt f0.mad f0.mcap f0.m.made)).trans (Ent.d7 (Ent.d7 (Ent.bigO_uncons.trans ((Ent.unstars2 (A:=osl aj 3 tLot f1.pad f1.pcap f1.m.parts) (B:=osl (encZ .i64) 1 tInt f1.mad f1.mcap f1.m.made)).trans (Ent.d7 (Ent.d7 Ent.drop)))))))
def FY{c:CatV}{sad fad:OA}{sc fc:Nat}{s0 s1:StV}{f0 f1:FlV}{L:LH}:Ent (osl aM 5 tMv s0.mad s0.mcap s0.moves::stP s0::osl aM 5 tMv s1.mad s1.mcap s1.moves::stP s1::osl aj 3 tLot f0.pad f0.pcap f0.m.parts::osl (encZ .i64) 1 tInt f0.mad f0.mcap f0.m.made::osl aj 3 tLot f1.pad f1.pcap f1.m.parts::osl (encZ .i64) 1 tInt f1.mad f1.mcap f1.m.made::osl aT 7 be sad sc [s0,s1]::osl bL 11 cz fad fc [f0,f1]::catP c::L) (je c sad fad s0 s1 f0 f1 L):=by
 refine Ent.freezeSl.trans ?_;refine(Ent.at (A:=osl aj 3 tLot f0.pad f0.pcap f0.m.parts) Ent.freezeSl).trans ?_;refine(Ent.at (A:=osl (encZ .i64) 1 tInt f0.mad f0.mcap f0.m.made) Ent.freezeSl).trans ?_;refine(Ent.at (A:=osl (encZ .i64) 1 tInt f1.mad f1.mcap f1.m.made) Ent.freezeSl).trans ?_;refine(Ent.at (A:=osl aT 7 be sad sc [s0,s1]) Ent.freezeSl).trans ?_;refine(Ent.at (A:=osl bL 11 cz fad fc [f0,f1]) Ent.freezeSl).trans ?_;exact ae
