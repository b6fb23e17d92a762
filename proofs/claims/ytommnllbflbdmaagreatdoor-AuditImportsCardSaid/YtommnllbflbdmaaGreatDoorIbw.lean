/- Lemmas. -/
import Derived.Test.YtommnllbflbdmaaGreatDoorIbu
set_option linter.all false
set_option maxHeartbeats 16000000
namespace Go.Proofs.YtommnllbflbdmaaGreatDoor
section
open Go.V
attribute [local irreducible] G GO GP GPW GPK Ev Ef EfR Ent CB GB V.Enters ql
structure AudS (ss:List StV):Prop where
 len:ss.length≤60000
 inp:∀s∈ss,StInG s∧s.moves.length≤s.mcap
 k:stK (ss.map StV.m)≤2000
 l:∀a i,stL a i (ss.map StV.m)≤19
structure AudFl (fs:List FlV):Prop where
 len:fs.length≤1000000000
 fl:∀f∈fs,f.m.parts.length≤1000000000∧f.m.made.length≤1000000000
abbrev yS:List Stp:=[.ev 0,.ev 1,.ev 2,.ev 3,.ev 4,.ev 5,.ev 6,.ev 7,.ev 8,.ev 9,.ev 10,.ev 11,.ev 12,.ev 13,.ev 14,.ev 15,.ev 16,.ev 17,.ef 18,.ev 19,.ev 20]
abbrev yR:List Stp:=[.ev 0,.ev 1,.ev 2,.ev 3,.ev 4,.ev 5,.ev 6,.ev 7]
def cz{φ ψ:Prop}(k:ψ)(h:Hid ψ→φ:=by intro k;(with_reducible apply G.d8);first|refine G.d7 (N:=105) (id:=14) yS mixed aw (Hid.out k)|refine G.d7 (N:=105) (id:=17) yR mixed aw (Hid.out k)):φ:=h ⟨k⟩
def YE{φ ψ:Prop}(k:ψ)(h:Hid ψ→φ:=by intro k;(repeat (first|refine aa ?_|intro zzz|((with_reducible apply G.d8);first|refine G.d7 (N:=105) (id:=14) yS mixed aw ?_|refine G.d7 (N:=105) (id:=17) yR mixed aw ?_)));(repeat revert zzz);exact Hid.out k):φ:=h ⟨k⟩
def wG{L:LH}(b4 b5 b6 b7:Nat)(sh:Int)(c:CatV)(hB:c.B)(hc:c.m.Ok)(sad:OA)(n scap:Nat)(ss:List StV)[hrs:Rds L sad StV aL 7 ss](hn:n=ss.length)(hS:AudS ss)(e1:∀s∈ss,Ent L (bK s::L))(fad:OA)(n2 fcap:Nat)(fs:List FlV)[hrf:Rds L fad FlV aM 11 fs](c8:n2=fs.length)(hF:AudFl fs)(c9:fs.length≤fcap)(d5:∀f∈fs,Ent L (flP f::L)) :
  TriE ag 44 ([av b4,av b5,av b6,av b7]:LV).toArray
   (obj b4 tInt [ac sh]::obj b5 33 c.cells::obj b6 26 [.slice sad n scap]::obj b7 35 [.slice fad n2 fcap]::catP c::L)
   (fun _ L'=>audF sh c.m (ss.map StV.m) (fs.map FlV.m)=(0,0,0)∧L' = L) (fun ch L'=>∃x,ch=pnc x∧x=audF sh c.m (ss.map StV.m) (fs.map FlV.m)∧L' = L):=by
 subst hn c8;have c7:=hS.len;refine TriE.body 105 en44 Tryz.func44 rfl rfl rfl (by simp) ?_;by_cases h1:0≤sh∧sh<12
 case neg =>
  have e:audF sh c.m (ss.map StV.m) (fs.map FlV.m)=(1,sh,0):=if_neg h1;rw[e];by_cases h0:0≤sh
  ·have h2:¬sh<12:=fun q=>h1 ⟨h0,q⟩;refine YE ?_;intros;refine GO.ev (Ev.f7 rfl) ah ?_;refine GO.panic rfl ?_;repeat first|with_reducible apply KX.d9|with_reducible apply KX.d8
   exact KX.e7 ae ⟨(1,sh,0),rfl,rfl,rfl⟩
  ·skip;refine YE ?_;intros;refine GO.ev (Ev.f7 rfl) ah ?_;refine GO.panic rfl ?_;repeat first|with_reducible apply KX.d9|with_reducible apply KX.d8
   exact KX.e7 ae ⟨(1,sh,0),rfl,rfl,rfl⟩
 have e:audF sh c.m (ss.map StV.m) (fs.map FlV.m)=audG (fs.map FlV.m) 0 (led0 sh c.m) (ss.map StV.m):=if_pos h1;rw[e];have e2:=wI h1 c.m;obtain⟨f2,e6⟩:=h1;refine YE ?_;intros;refine GO.ent (L':=catP c::obj b4 tInt [ac sh]::obj b5 33 c.cells::obj b6 26 [.slice sad ss.length scap]::obj b7 35 [.slice fad fs.length fcap]::L) ae ?_;refine GO.ca (vb sh c) ?_;rintro _ _⟨b,ms,mt,mi,mr,rfl,rfl⟩;have a8:BkR (led0 sh c.m) (bk0 c ms mt mi mr):=⟨rfl,hB,rfl,rfl,rfl,fun _ _=>rfl,fun _ _=>aB _,fun _=>rfl,⟨List.nodup_nil,fun _=>rfl⟩,⟨List.nodup_nil,fun _=>rfl⟩⟩;simp only[bkL,bI];refine YE ?_;intros
 refine G.loop (α:=Nat×BkX×LedM) (fun g=>g.1≤ss.length∧BkR g.2.2 g.2.1∧LedA (stK ((ss.map StV.m).take g.1)) g.2.2∧g.2.2.shard=sh∧g.2.2.cat=c.m∧(∀a j,(g.2.2.stk a j).length+stL a j ((ss.map StV.m).drop g.1)≤19)∧stK ((ss.map StV.m).take g.1)+stK ((ss.map StV.m).drop g.1)≤2000∧audG (fs.map FlV.m) 0 (led0 sh c.m) (ss.map StV.m)=audG (fs.map FlV.m) g.1 g.2.2 ((ss.map StV.m).drop g.1))
  (fun g=>[(0,av b4),(1,av b5),(2,av b6),(3,av b7),(4,av b),(23,.slice sad ss.length scap),(24,ac ss.length),(25,ac (g.1:Int))]) (fun g=>obj b4 tInt [ac sh]::obj b5 33 c.cells::obj b6 26 [.slice sad ss.length scap]::obj b7 35 [.slice fad fs.length fcap]::bkL b sh g.2.1 L) (fun g=>ss.length - g.1) (0,bk0 c ms mt mi mr,led0 sh c.m) ⟨aj _,a8,e2,rfl,rfl,fun a j=>by have:=hS.l a j;show 0+_≤19;rw[cV];omega,by have:=hS.k;rw[cV,cd];show 0+_≤_;omega,rfl⟩ ai (by simp only[bkL,bI];exact ae) ?_
 rintro⟨i,x,S⟩ ⟨hi,hx,hA,c6,b0,hL,hK,ha⟩;dsimp only at hi hx hA c6 b0 hL hK ha ⊢;subst c6;have d6:=hA.g.flows;have d1:=hA.g.steps
 have d3:x.flows.length=S.flows.length:=by
  have:=congrArg List.length hx.flows
  rwa [aA] at this
 have b1:(fs.map FlV.m).length=fs.length:=aA _;simp only[bkL,bI];by_cases c0:i<ss.length
 case neg =>
  obtain rfl:i=ss.length:=ab;have a6:(ss.map StV.m).drop ss.length=[]:=bg (by rw[aA];exact aB _);rw[a6,rE,b1] at ha;repeat first|((fail_if_success (with_reducible refine G.atS 17 ?_));(with_reducible apply G.seq))|refine bA ?_|intro _|refine cz ?_
  refine G.g9 (α:=Unit) (fun _=>True) (fun _=>[(0,av b4),(2,av b6),(96,.bool (dB ((x.flows.length:Int)<(fs.length:Int))))]) (fun _=>obj b4 tInt [ac S.shard]::obj b5 33 c.cells::obj b6 26 [.slice sad ss.length scap]::obj b7 35 [.slice fad fs.length fcap]::bkL b S.shard x L) ?_ ?_
  ·refine YE ?_;intros;exact KX.l6 ⟨(),trivial,ai,by simp only[bkL,bI];exact ae⟩
  rintro _ _;simp only[bkL,bI];by_cases hq:S.flows.length<fs.length
  ·rw[if_pos hq] at ha;rw[ha];have e3:(x.flows.length:Int)<(fs.length:Int):=ab;refine YE ?_;intros;refine GO.ev (Ev.m9 rfl rfl ab ab) ah ?_;refine YE ?_;intros;refine GO.ev (Ev.f7 rfl) ah ?_;refine GO.panic rfl ?_;repeat first|with_reducible apply KX.d9|with_reducible apply KX.d8
   exact KX.e7 ae ⟨(20,S.shard,S.shard*4294967296+(ss.length:Int)),rfl,rfl,rfl⟩
  ·rw[if_neg hq] at ha;rw[ha];have e3:¬(x.flows.length:Int)<(fs.length:Int):=ab;refine YE ?_;intros;exact KX.l8 an ae ⟨rfl,rfl⟩
 have e0:(i:Int).toNat=i:=ay i;have b8 : (i:Int).toNat<ss.length:=ab;have c4:i<(ss.map StV.m).length:=by rw[aA];exact c0
 have c3:(ss.map StV.m)[i]! = ss[(i:Int).toNat]!.m:=by rw[e0];exact dP StV.m c0
 have a6:(ss.map StV.m).drop i=ss[(i:Int).toNat]!.m::(ss.map StV.m).drop (i+1):=by rw[←c3];exact dF c4
 have d2:stK ((ss.map StV.m).take (i+1))=stK ((ss.map StV.m).take i)+mvK ss[(i:Int).toNat]!.m.moves:=by
  rw[vL c4,c3]
 rw[a6,kK] at ha;rw[a6] at hL hK;have a4:=aG b8;obtain⟨a9,b9⟩:=hS.inp _ a4;have a7:=e1 _ a4;refine G.ent (L':=stM ss[(i:Int).toNat]!::stP ss[(i:Int).toNat]!::obj b4 tInt [ac S.shard]::obj b5 33 c.cells::obj b6 26 [.slice sad ss.length scap]::obj b7 35 [.slice fad fs.length fcap]::bkL b S.shard x L) ((Ent.under (A:=obj b4 tInt [ac S.shard]::obj b5 33 c.cells::obj b6 26 [.slice sad ss.length scap]::obj b7 35 [.slice fad fs.length fcap]::bkL b S.shard x []) a7).trans Ent.andE) ?_;simp only[bkL,bI];refine YE ?_;intros;refine GO.ev (Ev.m9 rfl rfl ab ab) ah ?_;refine YE ?_;intros;generalize ss[(i:Int).toNat]! = s at *;have e5:stK (s.m::(ss.map StV.m).drop (i+1))=mvK s.m.moves+stK ((ss.map StV.m).drop (i+1)):=rfl;have c5:∀a j,stL a j (s.m::(ss.map StV.m).drop (i+1))=lotsIn a j s.m.moves+stL a j ((ss.map StV.m).drop (i+1)):=fun _ _=>rfl;obtain⟨b2,a5⟩:=tH (s:=s.m) hA ab;obtain⟨z,hz⟩:=qH S s.m;have f0:(cR S s.m).flows.length=S.flows.length+z.length:=by rw[hz,aD]
 have d4:=b2.g.flows;have d0:=b2.g.steps;by_cases c1:s.id=S.shard*4294967296+i
 case neg =>
  rw[if_pos (show s.m.id≠S.shard*4294967296+(i:Int) from c1)] at ha;rw[ha];refine YE ?_;intros;refine GO.ev (Ev.f7 rfl) ah ?_;refine GO.panic rfl ?_;repeat first|with_reducible apply KX.d9|with_reducible apply KX.d8
  exact KX.e7 ae ⟨(1,S.shard,S.shard*4294967296+(i:Int)),rfl,rfl,rfl⟩
 rw[if_neg (show ¬(s.m.id≠S.shard*4294967296+(i:Int)) from fun q=>q c1)] at ha;refine YE ?_;intros;rename_i a0;refine GO.ent (L':=bkL b S.shard x (stM s::stP s::obj a0 bB (aL s)::obj b4 tInt [ac S.shard]::obj b5 33 c.cells::obj b6 26 [.slice sad ss.length scap]::obj b7 35 [.slice fad fs.length fcap]::L)) (by simp only[bkL,bI];exact ae) ?_;refine GO.ca (Cw b S (stK ((ss.map StV.m).take i)) hA (b0▸hc) s a9 b9 ab (fun a j=>by have:=hL a j;have:=c5 a j;omega) x hx) ?_;rintro _ _⟨rfl,(⟨he,x',b3,rfl⟩|⟨he,rfl⟩)⟩
 case inr =>
  rw[if_pos he] at ha;rw[ha];generalize (gTry S s.m).1=er at *;refine YE ?_;intros;refine GO.ev (Ev.f7 rfl) ah ?_;refine GO.panic rfl ?_;repeat first|with_reducible apply KX.d9|with_reducible apply KX.d8
  exact KX.e7 ae ⟨(er,S.shard,S.shard*4294967296+(i:Int)),rfl,rfl,rfl⟩
 rw[if_neg (fun q=>q he)] at ha;rw[he]
 have a2 : x'.flows.length=(cR S s.m).flows.length:=by
  have:=congrArg List.length b3.flows
  rwa [aA] at this
 simp only[bkL,bI];repeat first|((fail_if_success (with_reducible refine G.atS 14 ?_));(with_reducible apply G.seq))|refine bA ?_|intro _|refine cz ?_
 refine G.e8 (fX (ad:=x'.fad) (cap:=x'.fcap) (xs:=x'.flows) (enc:=aM) (sz:=11) (E:=bY)) ?_;rintro⟨a3,_⟩
 have c2:(x'.flows.drop x.flows.length).map FlV.m=((fs.drop x.flows.length).take (x'.flows.length - x.flows.length)).map FlV.m↔(cR S s.m).flows.drop S.flows.length=((fs.map FlV.m).drop S.flows.length).take ((cR S s.m).flows.length - S.flows.length):=by
  rw[List.map_drop,List.map_take,List.map_drop,b3.flows,d3,a2]
 refine G.g9 (α:=Bool) (fun r=>r=true↔((fs.map FlV.m).length<(cR S s.m).flows.length∨(cR S s.m).flows.drop S.flows.length≠((fs.map FlV.m).drop S.flows.length).take ((cR S s.m).flows.length - S.flows.length))) (fun r=>[(0,av b4),(1,av b5),(2,av b6),(3,av b7),(4,av b),(7,ac (S.shard*4294967296+(i:Int))),(23,.slice sad ss.length scap),(24,ac ss.length),(25,ac (i:Int)),(83,.bool r)]) (fun _=>bkL b S.shard x' (stM s::stP s::obj a0 bB (aL s)::obj b4 tInt [ac S.shard]::obj b5 33 c.cells::obj b6 26 [.slice sad ss.length scap]::obj b7 35 [.slice fad fs.length fcap]::L)) ?_ ?_
 ·by_cases q1:fs.length<x'.flows.length
  ·have f4 : (fs.length:Int)<(x'.flows.length:Int):=ab;refine YE ?_;intros;exact KX.l6 ⟨true,⟨fun _=>.inl (by rw[b1,←a2];exact q1),fun _=>rfl⟩,ai,by simp only[bkL,bI];exact ae⟩
  have e4:∀f∈x'.flows.drop x.flows.length,Ent (bkL b S.shard x' (stM s::stP s::obj a0 bB (aL s)::obj b4 tInt [ac S.shard]::obj b5 33 c.cells::obj b6 26 [.slice sad ss.length scap]::obj b7 35 [.slice fad fs.length fcap]::L)) (flP f::bkL b S.shard x' (stM s::stP s::obj a0 bB (aL s)::obj b4 tInt [ac S.shard]::obj b5 33 c.cells::obj b6 26 [.slice sad ss.length scap]::obj b7 35 [.slice fad fs.length fcap]::L)):=fun f hf=>by
   simp only[bkL,bI];refine(Ent.at (A:=allP flP x'.flows) (Ent.d8 (f:=flP) (List.mem_of_mem_drop hf))).trans ?_;exact ae
  have a8:∀f∈(fs.drop x.flows.length).take (x'.flows.length - x.flows.length),Ent (bkL b S.shard x' (stM s::stP s::obj a0 bB (aL s)::obj b4 tInt [ac S.shard]::obj b5 33 c.cells::obj b6 26 [.slice sad ss.length scap]::obj b7 35 [.slice fad fs.length fcap]::L)) (flP f::bkL b S.shard x' (stM s::stP s::obj a0 bB (aL s)::obj b4 tInt [ac S.shard]::obj b5 33 c.cells::obj b6 26 [.slice sad ss.length scap]::obj b7 35 [.slice fad fs.length fcap]::L)):=fun f hf=>Ent.under (A:=bkL b S.shard x' (stM s::stP s::obj a0 bB (aL s)::obj b4 tInt [ac S.shard]::obj b5 33 c.cells::obj b6 26 [.slice sad ss.length scap]::obj b7 35 [.slice fad fs.length fcap]::[])) (d5 f (List.mem_of_mem_drop (cL hf)));have f1:Rds (bkL b S.shard x' (stM s::stP s::obj a0 bB (aL s)::obj b4 tInt [ac S.shard]::obj b5 33 c.cells::obj b6 26 [.slice sad ss.length scap]::obj b7 35 [.slice fad fs.length fcap]::L)) (advA x'.fad x'.fcap 11 x.flows.length) FlV aM 11 (x'.flows.drop x.flows.length):=Rds.drop inferInstance a3 _;have f3:Rds (bkL b S.shard x' (stM s::stP s::obj a0 bB (aL s)::obj b4 tInt [ac S.shard]::obj b5 33 c.cells::obj b6 26 [.slice sad ss.length scap]::obj b7 35 [.slice fad fs.length fcap]::L)) (advA fad fcap 11 x.flows.length) FlV aM 11 ((fs.drop x.flows.length).take (x'.flows.length - x.flows.length)):=Rds.take (Rds.drop inferInstance c9 _) _;refine YE ?_;intros;rw[show(Int.toNat (x.flows.length:Int))=x.flows.length from ay _,show(Int.toNat (x'.flows.length:Int))=x'.flows.length from ay _];refine GPW.cr (Ee (advA x'.fad x'.fcap 11 x.flows.length) (advA fad fcap 11 x.flows.length) (x'.flows.length - x.flows.length) (x'.flows.length - x.flows.length) (x'.fcap - x.flows.length) (fcap - x.flows.length) (x'.flows.drop x.flows.length) ((fs.drop x.flows.length).take (x'.flows.length - x.flows.length)) (by rw[cH]) (by rw[bh,cH];omega) (by have:=hF.len;rw[bh,cH];omega) (fun f hf=>hF.fl f (List.mem_of_mem_drop (cL hf))) e4 a8) ?_;by_cases q2:(x'.flows.drop x.flows.length).map FlV.m=((fs.drop x.flows.length).take (x'.flows.length - x.flows.length)).map FlV.m
  ·rw[aT q2];refine YE ?_;intros;refine KX.l6 ⟨false,⟨fun q=>absurd q ah,fun q=>?_⟩,ai,by simp only[bkL,bI];exact ae⟩;rcases q with q|q
   ·rw[b1,←a2] at q;exact absurd q q1
   ·exact absurd (c2.1 q2) q
  ·rw[aH q2];refine YE ?_;intros;exact KX.l6 ⟨true,⟨fun _=>.inr (fun q=>q2 (c2.2 q)),fun _=>rfl⟩,ai,by simp only[bkL,bI];exact ae⟩
 intro r hr;simp only[bkL,bI];by_cases a1:((fs.map FlV.m).length<(cR S s.m).flows.length∨(cR S s.m).flows.drop S.flows.length≠((fs.map FlV.m).drop S.flows.length).take ((cR S s.m).flows.length - S.flows.length))
 ·rw[if_pos a1] at ha;rw[ha];obtain rfl:=hr.2 a1;refine YE ?_;intros;refine GO.ev (Ev.f7 rfl) ah ?_;refine GO.panic rfl ?_;repeat first|with_reducible apply KX.d9|with_reducible apply KX.d8
  exact KX.e7 ae ⟨(20,S.shard,S.shard*4294967296+(i:Int)),rfl,rfl,rfl⟩
 rw[if_neg a1] at ha
 obtain rfl:r=false:=by
  cases r with
  | false=>rfl
  | true=>exact absurd (hr.1 rfl) a1
 refine YE ?_;intros;refine⟨(i+1,x',cR S s.m),⟨by dsimp only;omega,b3,by dsimp only;rw[d2];exact b2,nt S s.m,(pF S s.m).trans b0,fun a j=>?_,by dsimp only;omega,ha⟩,by dsimp only;omega,?_,?_⟩
 ·have g1:=hL a j;have g2:=c5 a j;have g3:=a5 a j;dsimp only;omega
 ·dsimp only;rw[aK i];exact ai
 ·exact ae
def oT{L:LH}(sh:Int)(c:CatV)(hB:c.B)(hc:c.m.Ok)(sad:OA)(n scap:Nat)(ss:List StV)[hrs:Rds L sad StV aL 7 ss](hn:n=ss.length)(hS:AudS ss)(a3:∀s∈ss,Ent L (bK s::L))(fad:OA)(n2 fcap:Nat)(fs:List FlV)[hrf:Rds L fad FlV aM 11 fs](a2:n2=fs.length)(hF:AudFl fs)(a4:fs.length≤fcap)(a1:∀f∈fs,Ent L (flP f::L)) :
  Tri ag 14 #[ac sh,.agg c.cells.toArray,.slice sad n scap,.slice fad n2 fcap] (catP c::L) (fun v L'=>v=.agg (cX (audF sh c.m (ss.map StV.m) (fs.map FlV.m))).toArray∧L' = L):=by
 refine Tri.bd ?_;refine Hz ?_;intros;rename_i b4 b5 b6 b7 b8;refine GO.ent (L':=obj b4 tInt [ac sh]::obj b5 33 c.cells::obj b6 26 [.slice sad n scap]::obj b7 35 [.slice fad n2 fcap]::catP c::obj b8 tFnd [ac 0,ac 0,ac 0]::L) ae ?_;refine GO.ca (sT 44 [av b4,av b5,av b6,av b7] (fun L'=>audF sh c.m (ss.map StV.m) (fs.map FlV.m)=(0,0,0)∧L' = obj b8 tFnd [ac 0,ac 0,ac 0]::L) (fun x L'=>x=audF sh c.m (ss.map StV.m) (fs.map FlV.m)∧L' = obj b8 tFnd [ac 0,ac 0,ac 0]::L) (wG (L:=obj b8 tFnd [ac 0,ac 0,ac 0]::L) b4 b5 b6 b7 sh c hB hc sad n scap ss hn hS (fun s hs=>Ent.under (A:=[obj b8 tFnd [ac 0,ac 0,ac 0]]) (a3 s hs)) fad n2 fcap fs a2 hF a4 (fun f hf=>Ent.under (A:=[obj b8 tFnd [ac 0,ac 0,ac 0]]) (a1 f hf)))) ?_;rintro _ _⟨x,rfl,hx⟩;rcases hx with⟨a0,h1,rfl⟩|⟨a0,rfl⟩
 ·subst a0;rw[h1];refine Hz ?_;intros;exact KX.d7 (by exact ResOk.cell rfl (by rfl) (ResOk.nil)) ae ⟨rfl,rfl⟩
 rw[←a0];clear a0;refine Hz ?_;intros;exact KX.d7 (by exact ResOk.cell rfl (by rfl) (ResOk.nil)) ae ⟨rfl,rfl⟩
end
section
open Go.V
abbrev exVS(p0:OA)(c0:Nat)(a0:OA)(k0:Nat):StV:=⟨0,0,0,0,-1,0,[⟨⟨0,1,0,5,[]⟩,p0,c0⟩],a0,k0⟩
abbrev exVT(n:Int)(p1:OA)(c1:Nat)(a1:OA)(k1:Nat):StV:=⟨1,2,0,0,-1,0,[⟨⟨1,2,0,n,[]⟩,p1,c1⟩],a1,k1⟩
def FQ{ss:List StV}(h:ss.map StV.m=exL2.steps):∃p0 c0 a0 k0 p1 c1 a1 k1,ss=[exVS p0 c0 a0 k0,exVT 3 p1 c1 a1 k1]:=by
 have h' : ss.map StV.m=[exS,(exT 3).at 1]:=h;obtain⟨s0,l1,rfl,e0,h1⟩:=List.map_eq_cons_iff.1 h';obtain⟨s1,l2,rfl,e1,h2⟩:=List.map_eq_cons_iff.1 h1;obtain rfl:l2=[]:=List.map_eq_nil_iff.1 h2
 have one:∀{ms:List MvV} {m:MvM},ms.map MvV.m=[m]→∃p c,ms=[⟨m,p,c⟩]:=fun {ms m} q=>by
  obtain⟨⟨u,p,c⟩,l,rfl,e,h3⟩:=List.map_eq_cons_iff.1 q;obtain rfl:l=[]:=List.map_eq_nil_iff.1 h3;obtain rfl:u=m:=e;exact⟨p,c,rfl⟩
 obtain⟨x1,x2,x3,x4,x5,x6,a2,a0,k0⟩:=s0;obtain⟨y1,y2,y3,y4,y5,y6,a3,a1,k1⟩:=s1;have g0:=StM.mk.inj e0;have g1:=StM.mk.inj e1;obtain⟨p0,c0,rfl⟩:=one g0.2.2.2.2.2.2;obtain⟨p1,c1,rfl⟩:=one g1.2.2.2.2.2.2;obtain⟨rfl,rfl,rfl,rfl,rfl,rfl,_⟩:=g0;obtain⟨rfl,rfl,rfl,rfl,rfl,rfl,_⟩:=g1;exact⟨p0,c0,a0,k0,p1,c1,a1,k1,rfl⟩
def Gq{fs:List FlV}(h:fs.map FlV.m=exL2.flows):∃p0 c0 m0 k0 p1 c1 m1 k1,fs=[⟨exF0,p0,c0,m0,k0⟩,⟨exF1 0,p1,c1,m1,k1⟩]:=by
 have h' : fs.map FlV.m=[exF0,exF1 0]:=h;obtain⟨⟨u0,p0,c0,m0,k0⟩,l1,rfl,e0,h1⟩:=List.map_eq_cons_iff.1 h';obtain⟨⟨u1,p1,c1,m1,k1⟩,l2,rfl,e1,h2⟩:=List.map_eq_cons_iff.1 h1;obtain rfl:l2=[]:=List.map_eq_nil_iff.1 h2;obtain rfl:u0=exF0:=e0;obtain rfl:u1=exF1 0:=e1;exact⟨p0,c0,m0,k0,p1,c1,m1,k1,rfl⟩
def Gt{p0 c0 a0 k0}(hk:1≤k0):StInG (exVS p0 c0 a0 k0)∧(exVS p0 c0 a0 k0).moves.length≤(exVS p0 c0 a0 k0).mcap :=
 ⟨⟨by show 1≤1000000;decide,by unfold I64;show -9223372036854775808≤-1∧(-1:Int)≤9223372036854775807;decide,fun m hm=>by rw[List.mem_singleton.1 hm];exact aj _,fun m hm=>by rw[List.mem_singleton.1 hm];exact aj _,fun m hm p hp=>by rw[List.mem_singleton.1 hm] at hp;cases hp⟩,hk⟩
def Gs{n p1 c1 a1 k1}(hk:1≤k1):StInG (exVT n p1 c1 a1 k1)∧(exVT n p1 c1 a1 k1).moves.length≤(exVT n p1 c1 a1 k1).mcap :=
 ⟨⟨by show 1≤1000000;decide,by unfold I64;show -9223372036854775808≤-1∧(-1:Int)≤9223372036854775807;decide,fun m hm=>by rw[List.mem_singleton.1 hm];exact aj _,fun m hm=>by rw[List.mem_singleton.1 hm];exact aj _,fun m hm p hp=>by rw[List.mem_singleton.1 hm] at hp;cases hp⟩,hk⟩
def CS(a i:Int):∀l:List StM,stL a i l≤stK l
 | []=>aB _
 | s::l=>by
  have h1:=CS a i l;have h2:=pA a i s.moves;show lotsIn a i s.moves+stL a i l≤mvK s.moves+stK l;omega
def Eb{n p0 c0 a0 k0 p1 c1 a1 k1}(h0:1≤k0)(h1:1≤k1):AudS [exVS p0 c0 a0 k0,exVT n p1 c1 a1 k1]:=by
 have e:stK ([exVS p0 c0 a0 k0,exVT n p1 c1 a1 k1].map StV.m)=2:=rfl;refine⟨by show 2≤60000;decide,fun s hs=>?_,by rw[e];decide,fun a i=>cg (CS a i _) (by rw[e];decide)⟩;rcases List.mem_cons.1 hs with rfl|hs
 ·exact Gt h0
 ·rw[List.mem_singleton.1 hs];exact Gs h1
def An{a p0 c0 m0 k0 p1 c1 m1 k1}:AudFl [⟨exF0,p0,c0,m0,k0⟩,⟨exF1 a,p1,c1,m1,k1⟩]:=by
 refine⟨by show 2≤1000000000;decide,fun s hs=>?_⟩;rcases List.mem_cons.1 hs with rfl|hs
 ·exact⟨by show 0≤1000000000;decide,by show 0≤1000000000;decide⟩
 ·rw[List.mem_singleton.1 hs];exact⟨by show 1≤1000000000;decide,by show 0≤1000000000;decide⟩
def Fz{p0 c0 a0 k0 p1 c1 a1 k1}:fK [exVS p0 c0 a0 k0,exVT 3 p1 c1 a1 k1]=[⟨0,1,0,5,[]⟩,⟨1,2,0,3,[]⟩]:=rfl
def Ho{p0 c0 a0 k0 p1 c1 a1 k1}:resT 4 [exVS p0 c0 a0 k0,exVT 3 p1 c1 a1 k1]=(0,[5,0,0,0]):=by
 unfold resT;rw[Fz];rfl
def Hr{p0 c0 a0 k0 p1 c1 a1 k1}:(resH 4 [exVS p0 c0 a0 k0,exVT 3 p1 c1 a1 k1]).1=0∧HoldL (resH 4 [exVS p0 c0 a0 k0,exVT 3 p1 c1 a1 k1]).2 [(1,0,2),(2,0,3)]:=by
 have e:resH 4 [exVS p0 c0 a0 k0,exVT 3 p1 c1 a1 k1]=(0,updH (updH (updH (fun _ _=>0) 1 0 5) 1 0 2) 2 0 3):=by
  unfold resH;rw[Fz];rfl
 rw[e];refine⟨rfl,⟨?_,fun h=>?_⟩⟩
 ·refine List.pairwise_cons.2 ⟨fun y hy=>?_,cI _ _⟩;rw[List.mem_singleton.1 hy];exact .inl ah
 ·obtain⟨a,i,n⟩:=h;simp only[updH,bz,aV,or_false,Prod.mk.injEq];constructor
  ·rintro (⟨rfl,rfl,rfl⟩|⟨rfl,rfl,rfl⟩)
   ·exact⟨rfl,by decide⟩
   ·exact⟨rfl,by decide⟩
  ·rintro⟨q1,q2⟩;by_cases g1:a=2∧i=0
   ·rw[if_pos g1] at q1;exact .inr ⟨g1.1,g1.2,q1⟩
   ·rw[if_neg g1] at q1;by_cases g2:a=1∧i=0
    ·rw[if_pos g2] at q1;exact .inl ⟨g2.1,g2.2,q1⟩
    ·rw[if_neg g2,if_neg g2] at q1;exact absurd q1 q2
end
end Go.Proofs.YtommnllbflbdmaaGreatDoor
namespace Go.V
section
open Go.Sort Go.Proofs
def Frz(L L' : LH):Prop:=∀ι h,Hp.disj ι h→Stars L ι h→Stars L' (Hp.d9 ι h) Hp.emp
def Frz.nil:Frz [] []:=fun _ _ _ _=>trivial
def sF{ι h:Hp}(hd:Hp.disj ι h){b:Nat}{o:Obj}(hb:h b=some o):Hp.d9 ι h b=some o:=by
 unfold Hp.d9;cases hi:ι b with
 | none=>exact hb
 | some x=>have:=hd b x hi;rw[hb] at this;cases this
def ul{ι h h2:Hp}(hs:Hp.sub h2 h):Hp.sub (Hp.d9 ι h2) (Hp.d9 ι h):=fun k o hk=>by
 unfold Hp.d9 at hk ⊢;cases hi:ι k with
 | some x=>rw[hi] at hk;exact hk
 | none=>rw[hi] at hk;exact hs k o hk
def oK{ι h h2:Hp}(hd:Hp.disj ι h)(hs:Hp.sub h2 h):Hp.disj ι h2:=fun k o hk=>by
 have h5:=hd k o hk;cases h6:h2 k with
 | none=>rfl
 | some o2=>rw[hs k o2 h6] at h5;cases h5
def Frz.cons{p p' : HP}{L L' : LH}(hp:∀ι₀ ι h₁ h,Hp.disj ι h→Hp.sub h₁ h→p ι₀ h₁→p' (Hp.d9 ι h) Hp.emp)(hL:Frz L L'):Frz (p::L) (p'::L'):=by
 rintro ι h hd ⟨ι₀,h₁,h₂,a,b,c,d,e,f⟩;exact⟨Hp.d9 ι h,Hp.emp,Hp.emp,Hp.sub.refl _,Hp.d8 _,Hp.sub.refl _,Hp.sub.refl _,hp ι₀ ι h₁ h hd c e,(hL ι h₂ (oK hd d) f).mono (ul d) (Hp.sub.refl _)⟩
abbrev encL(l:LV):LV:=l
def Frz.obj{b T n:Nat}{cs:LV}{L L' : LH}(hn:cs.length=n)(hL:Frz L L'):Frz (V.obj b T cs::L) (isl encL n (some ⟨b,0,none⟩) [cs]::L') :=
 Frz.cons (fun _ ι h₁ h hd hs hp=>by
  refine⟨fun x hx=>by rw[List.mem_singleton.1 hx];exact hn,.inr ⟨b,0,cs.toArray,T,(0,0),rfl,sF hd (hs b _ hp),fun i v hv=>?_⟩⟩;simpa using hv) hL
def Frz.osl{α:Type}{enc:α→LV}{sz E:Nat}{ad:OA}{cap:Nat}{xs:List α}{L L' : LH}(hL:Frz L L'):Frz (V.osl enc sz E ad cap xs::L) (isl enc sz ad xs::L') :=
 Frz.cons (fun _ ι h₁ h hd hs hp=>by
  obtain⟨h1,h2,h3,h4⟩:=hp;refine⟨h1,?_⟩;rcases h4 with⟨_,h5⟩|⟨g,a0,h5,h6,h7,h8⟩
  ·exact .inl (aW ab)
  ·refine .inr ⟨g,0,a0,E,(0,0),h5,sF hd (hs g _ h6),fun i v hv=>?_⟩;rw[←h8,List.getElem?_take] at hv;split at hv
   ·rw[dg];simpa using hv
   ·cases hv) hL
end
section
open Go.Proofs
def held(a b:Hp):HP:=fun ι h=>Hp.sub a ι∧Hp.sub b h
def Frz.pers{p:HP}{L L' : LH}(hm:∀ι ι' h,Hp.sub ι ι'→p ι h→p ι' Hp.emp)(hL:Frz L L'):Frz (p::L) (p::L'):=by
 rintro ι h hd ⟨ι₀,h₁,h₂,a,b,c,d,e,f⟩;exact⟨Hp.d9 ι h,Hp.emp,Hp.emp,Hp.sub.refl _,Hp.d8 _,Hp.sub.refl _,Hp.sub.refl _,hm ι₀ _ h₁ (a.trans (Hp.e7 _ _)) e,(hL ι h₂ (oK hd d) f).mono (ul d) (Hp.sub.refl _)⟩
def Stars.d8{p:HP}(hp:∀ι ι' h,p ι h→p ι' h){ι ι' h:Hp}(s:Stars [p] ι h):Stars [p] ι' h:=by
 obtain⟨ι₀,x1,x2,_,n2,n3,n4,e,_⟩:=s;exact⟨ι',x1,x2,Hp.sub.refl _,n2,n3,n4,hp _ _ _ e,trivial⟩
def Ent.o0{α:Type}{enc:α→LV}{sz:Nat}{ad:OA}{xs ys:List α}{L:LH}(h:xs.map enc=ys.map enc):Ent (isl enc sz ad xs::L) (isl enc sz ad ys::L):=by
 have e:isl enc sz ad xs=isl enc sz ad ys:=by
  have h1:xs.flatMap enc=ys.flatMap enc:=by rw[List.flatMap_def,List.flatMap_def,h]
  have h2:∀p:LV→Prop,(∀x∈xs,p (enc x))↔(∀x∈ys,p (enc x)):=fun p=>by
   have g:∀l:List α,(∀x∈l,p (enc x))↔∀u∈l.map enc,p u:=fun l=>by simp
   rw[g,g,h]
  have h3:xs=[]↔ys=[]:=by
   rw[←List.map_eq_nil_iff (f:=enc),h,List.map_eq_nil_iff]
  unfold isl;funext i w;rw[h1,h3,propext (h2 (fun l=>l.length=sz))]
 rw[e];exact Ent.refl _
def Tri.reads{P:Program}{f:FuncId}{args:Array Value}{α:Type}{φ:Value→α→Prop}{Res:α→LH}{L Lf M:LH}(a0:∀x ι ι' h,Stars (Res x) ι h→Stars (Res x) ι' h)
  (h:Tri P f args Lf (fun v L'=>∃x X,φ v x∧L' = Res x++X)) (a6:Frz L Lf):Tri P f args (L++M) (fun v L'=>∃x,φ v x∧L' = Res x++(L++M)):=by
 refine⟨h.enters,fun θ R w s=>?_⟩;obtain⟨ok,ι,hp,a,b,c,st⟩:=s;rw[aJ] at st;obtain⟨h1,h2,d1,d2,d3,s1,s2⟩:=Stars.split st;have a1:Hp.disj ι h1:=oK a d2;have a4:Hp.disj ι h2:=oK a d3;have hf:Stars Lf (Hp.d9 ι h1) Hp.emp:=a6 ι h1 a1 s1;have hX:Stars [held (Hp.d9 ι h1) h2] (Hp.d9 ι h1) h2:=⟨Hp.d9 ι h1,h2,Hp.emp,Hp.sub.refl _,(Hp.d8 _).symm,Hp.sub.refl _,Hp.d7 _,⟨Hp.sub.refl _,Hp.sub.refl _⟩,trivial⟩;have s0:Sat θ (Lf++[held (Hp.d9 ι h1) h2]) w:=⟨ok,Hp.d9 ι h1,h2,(Hp.e9 a4.symm d1.symm).symm,Hp.f7 b (d2.trans c),d3.trans c,Stars.d7 (Hp.d8 _) (Hp.d7 _) (Hp.sub.refl _) hf hX⟩;refine(h.calls θ _ w s0).mono ?_;rintro e w' ⟨v,L',rfl,⟨x,X,hφ,rfl⟩,s'⟩;obtain⟨a8,ι',b0,a',b',c',a5⟩:=s';rw[aJ] at a5;obtain⟨g1,g2,e1,e2,e3,sr,a7⟩:=Stars.split a5;obtain⟨k1,k2,_,_,m3,_,sX⟩:=Stars.split a7;obtain⟨ι₀,x1,x2,n1,n2,n3,n4,⟨X1,X2⟩,_⟩:=sX;have hj:Hp.sub (Hp.d9 ι h1) ι':=X1.trans n1;have hi:Hp.sub ι ι':=(Hp.e7 _ _).trans hj;have a2:Hp.sub h1 ι':=(Hp.e8 a1).trans hj;have a3:Hp.sub h2 g2:=(X2.trans n3).trans m3;have a9:Hp.sub h2 b0:=a3.trans e3;have z1:Hp.disj g1 h1:=(a'.mono a2 e2).symm;have z2:Hp.disj g1 h2:=e1.mono (Hp.sub.refl _) a3;have z3:Hp.disj g1 (Hp.d9 h1 h2):=Hp.e9 z1 z2;refine⟨v,Res x++(L++M),rfl,⟨x,hφ,rfl⟩,a8,ι,Hp.d9 g1 (Hp.d9 h1 h2),?_,hi.trans b',?_,?_⟩
 ·exact Hp.e9 (a'.mono hi e2) (Hp.e9 a1 a4)
 ·exact Hp.f7 (e2.trans c') (Hp.f7 (a2.trans b') (a9.trans c'))
 ·rw[aJ,aJ];exact Stars.d7 z3 (Hp.e7 _ _) (Hp.e8 z3) (a0 x ι' ι g1 sr) (Stars.d7 d1 (Hp.e7 _ _) (Hp.e8 d1) s1 s2)
end
section
def Frz.d7{p:HP}{L L' : LH}(pm:PersM p)(hL:Frz L L'):Frz (p::L) (p::L'):=Frz.pers (fun ι ι' h hi hp=>pm.mono ι ι' _ hi (pm.pers _ _ hp)) hL
end
end Go.V
namespace Go.Proofs.YtommnllbflbdmaaGreatDoor
open Go.V
abbrev Hq(c:CatV)(sad fad:OA)(s0 s1:StV)(f0 f1:FlV):LH :=
 [osl aQ 5 tMv s1.mad s1.mcap s1.moves,osl ao 3 tLot f1.pad f1.pcap f1.m.parts,isl aL 7 sad [s0,s1],isl aM 11 fad [f0,f1],isl aQ 5 s0.mad s0.moves,stP s0,stP s1,isl ao 3 f0.pad f0.m.parts,isl (encZ .i64) 1 f0.mad f0.m.made,isl (encZ .i64) 1 f1.mad f1.m.made,catP c]
abbrev iK(c:CatV)(sad fad:OA)(s0 s1:StV)(f0 f1:FlV)(M:LH):LH :=
 osl aQ 5 tMv s1.mad s1.mcap s1.moves::osl ao 3 tLot f1.pad f1.pcap f1.m.parts::isl aL 7 sad [s0,s1]::isl aM 11 fad [f0,f1]::isl aQ 5 s0.mad s0.moves::stP s0::stP s1::isl ao 3 f0.pad f0.m.parts::isl (encZ .i64) 1 f0.mad f0.m.made::isl (encZ .i64) 1 f1.mad f1.m.made::catP c::M
abbrev Ch(c:CatV)(sad fad:OA)(s0 s1:StV)(f0 f1:FlV):LH :=
 [isl aQ 5 s1.mad s1.moves,isl ao 3 f1.pad f1.m.parts,isl aL 7 sad [s0,s1],isl aM 11 fad [f0,f1],isl aQ 5 s0.mad s0.moves,stP s0,stP s1,isl ao 3 f0.pad f0.m.parts,isl (encZ .i64) 1 f0.mad f0.m.made,isl (encZ .i64) 1 f1.mad f1.m.made,catP c]
def rv(c:CatV)(sad fad:OA)(s0 s1:StV)(f0 f1:FlV):Frz (Hq c sad fad s0 s1 f0 f1) (Ch c sad fad s0 s1 f0 f1) :=
 Frz.osl (Frz.osl (Frz.d7 (bQ _ _ _ _) (Frz.d7 (bQ _ _ _ _) (Frz.d7 (bQ _ _ _ _) (Frz.d7 (cB iI) (Frz.d7 (cB iI) (Frz.d7 (bQ _ _ _ _) (Frz.d7 (bQ _ _ _ _) (Frz.d7 (bQ _ _ _ _) (Frz.d7 (gQ c) Frz.nil))))))))))
def rt(c:CatV)(sad fad:OA)(s0 s1:StV)(f0 f1:FlV):Ent (Ch c sad fad s0 s1 f0 f1) [allP bK [s0,s1],isl aL 7 sad [s0,s1],isl aM 11 fad [f0,f1],isl ao 3 f1.pad f1.m.parts,isl ao 3 f0.pad f0.m.parts,isl (encZ .i64) 1 f0.mad f0.m.made,isl (encZ .i64) 1 f1.mad f1.m.made,catP c]:=by
 refine Ent.trans (B:=stM s1::stP s1::[stM s0,stP s0,isl aL 7 sad [s0,s1],isl aM 11 fad [f0,f1],isl ao 3 f1.pad f1.m.parts,isl ao 3 f0.pad f0.m.parts,isl (encZ .i64) 1 f0.mad f0.m.made,isl (encZ .i64) 1 f1.mad f1.m.made,catP c]) ae ?_;refine(Ent.e8 (nZ s1) (cB iI)).trans ((Ent.g9 (f:=bK) ky).trans ?_);refine Ent.trans (B:=stM s0::stP s0::[allP bK [s1],isl aL 7 sad [s0,s1],isl aM 11 fad [f0,f1],isl ao 3 f1.pad f1.m.parts,isl ao 3 f0.pad f0.m.parts,isl (encZ .i64) 1 f0.mad f0.m.made,isl (encZ .i64) 1 f1.mad f1.m.made,catP c]) ae ?_;exact(Ent.e8 (nZ s0) (cB iI)).trans (Ent.e9 (f:=bK) ky)
def Fk(c:CatV)(sad fad:OA)(s0 s1:StV)(f0 f1:FlV):Ent (Ch c sad fad s0 s1 f0 f1) [catP c,allP flP [f0,f1],allP bK [s0,s1],isl aL 7 sad [s0,s1],isl aM 11 fad [f0,f1]]:=by
 refine(rt c sad fad s0 s1 f0 f1).trans ?_;refine Ent.trans (B:=isl ao 3 f1.pad f1.m.parts::isl (encZ .i64) 1 f1.mad f1.m.made::[isl ao 3 f0.pad f0.m.parts,isl (encZ .i64) 1 f0.mad f0.m.made,catP c,allP bK [s0,s1],isl aL 7 sad [s0,s1],isl aM 11 fad [f0,f1]]) ae ?_;refine Ent.trans (Ent.e8 (bQ _ _ _ _) (bQ _ _ _ _)) ((Ent.g9 (f:=flP) (x:=f1) lw).trans ?_);refine Ent.trans (B:=isl ao 3 f0.pad f0.m.parts::isl (encZ .i64) 1 f0.mad f0.m.made::[allP flP [f1],catP c,allP bK [s0,s1],isl aL 7 sad [s0,s1],isl aM 11 fad [f0,f1]]) ae ?_;refine Ent.trans (Ent.e8 (bQ _ _ _ _) (bQ _ _ _ _)) ((Ent.e9 (f:=flP) (x:=f0) lw).trans ae)
def pX{M:LH}(c:CatV)(hB:c.B)(hc:c.m.Ok)(sad fad:OA)(scap fcap:Nat)(s0 s1:StV)(f0 f1:FlV)(hS:AudS [s0,s1])(hF:AudFl [f0,f1])(a0:2≤fcap) :
  Tri ag 14 #[ac 0,.agg c.cells.toArray,.slice sad 2 scap,.slice fad 2 fcap] (iK c sad fad s0 s1 f0 f1 M) (fun v L'=>v=.agg (cX (audF 0 c.m [s0.m,s1.m] [f0.m,f1.m])).toArray∧L' = iK c sad fad s0 s1 f0 f1 M):=by
 have h:=oT (L:=[allP flP [f0,f1],allP bK [s0,s1],isl aL 7 sad [s0,s1],isl aM 11 fad [f0,f1]]) 0 c hB hc sad 2 scap [s0,s1] rfl hS (fun s hs=>(Ent.at (A:=allP bK [s0,s1]) (Ent.d8 (f:=bK) hs)).trans ae) fad 2 fcap [f0,f1] rfl hF a0 (fun f hf=>Ent.d8 (f:=flP) hf |>.trans ae);have h2:=(h.pre (Fk c sad fad s0 s1 f0 f1)).mono (post':=fun v L'=>∃(x:Unit) (X:LH),v=.agg (cX (audF 0 c.m [s0.m,s1.m] [f0.m,f1.m])).toArray∧L' = ([]:LH)++X) (fun v L' q=>⟨(),L',q.1,rfl⟩);exact(Tri.reads (Res:=fun _:Unit=>[]) (M:=M) (fun _ _ _ _ _=>trivial) h2 (rv c sad fad s0 s1 f0 f1)).mono (fun v L' ⟨_,q1,q2⟩=>⟨q1,q2⟩)
def AF{M:LH}(items:Int)(c:CatV)(sad fad:OA)(scap:Nat)(s0 s1:StV)(f0 f1:FlV)(hm:∀s∈[s0,s1],s.moves.length≤1000000) :
  Tri ag 17 #[ac items,.slice sad 2 scap] (iK c sad fad s0 s1 f0 f1 M) (fun v L'=>∃x:OA×Nat,v=.tuple #[.slice x.1 (resT items [s0,s1]).2.length x.2,ac (resT items [s0,s1]).1]∧L' = osl (encZ .i64) 1 tInt x.1 x.2 (resT items [s0,s1]).2::(iK c sad fad s0 s1 f0 f1 M)):=by
 have h:=uQ (L:=[isl aL 7 sad [s0,s1],isl aM 11 fad [f0,f1],isl ao 3 f1.pad f1.m.parts,isl ao 3 f0.pad f0.m.parts,isl (encZ .i64) 1 f0.mad f0.m.made,isl (encZ .i64) 1 f1.mad f1.m.made,catP c]) items sad 2 scap [s0,s1] rfl (by show 2≤1000000;decide) hm;have h2:=(h.pre (rt c sad fad s0 s1 f0 f1)).mono (post':=fun v L'=>∃(x:OA×Nat) (X:LH),v=.tuple #[.slice x.1 (resT items [s0,s1]).2.length x.2,ac (resT items [s0,s1]).1]∧L' = [osl (encZ .i64) 1 tInt x.1 x.2 (resT items [s0,s1]).2]++X) (fun v L' ⟨a1,a0,q1,q2⟩=>⟨(a1,a0),_,q1,q2⟩);exact Tri.reads (Res:=fun x:OA×Nat=>[osl (encZ .i64) 1 tInt x.1 x.2 (resT items [s0,s1]).2]) (M:=M) (fun _ _ _ _ q=>Stars.d8 (fun _ _ _ z=>z) q) h2 (rv c sad fad s0 s1 f0 f1)
def wP{M:LH}(items:Int)(c:CatV)(sad fad:OA)(scap:Nat)(s0 s1:StV)(f0 f1:FlV)(hm:(fK [s0,s1]).length≤100000) :
  Tri ag 19 #[ac items,.slice sad 2 scap] (iK c sad fad s0 s1 f0 f1 M) (fun v L'=>∃x:OA×Nat×List Hd,(v=.tuple #[.slice x.1 x.2.2.length x.2.1,ac (resH items [s0,s1]).1]∧(x.2.2.length≤200000∧if(resH items [s0,s1]).1=0 then HoldL (resH items [s0,s1]).2 x.2.2 else x.2.2=[]))∧L' = osl gU 3 tHd x.1 x.2.1 x.2.2::(iK c sad fad s0 s1 f0 f1 M)):=by
 have h:=sH (L:=[isl aL 7 sad [s0,s1],isl aM 11 fad [f0,f1],isl ao 3 f1.pad f1.m.parts,isl ao 3 f0.pad f0.m.parts,isl (encZ .i64) 1 f0.mad f0.m.made,isl (encZ .i64) 1 f1.mad f1.m.made,catP c]) items sad 2 scap [s0,s1] rfl (by show 2≤1000000;decide) hm;have h2:=(h.pre (rt c sad fad s0 s1 f0 f1)).mono (post':=fun v L'=>∃(x:OA×Nat×List Hd) (X:LH),(v=.tuple #[.slice x.1 x.2.2.length x.2.1,ac (resH items [s0,s1]).1]∧(x.2.2.length≤200000∧if(resH items [s0,s1]).1=0 then HoldL (resH items [s0,s1]).2 x.2.2 else x.2.2=[]))∧L' = [osl gU 3 tHd x.1 x.2.1 x.2.2]++X) (fun v L' ⟨a1,a0,hs,q1,q2,q3⟩=>⟨(a1,a0,hs),_,⟨q1,q2⟩,q3⟩);exact Tri.reads (Res:=fun x:OA×Nat×List Hd=>[osl gU 3 tHd x.1 x.2.1 x.2.2]) (M:=M) (fun _ _ _ _ q=>Stars.d8 (fun _ _ _ z=>z) q) h2 (rv c sad fad s0 s1 f0 f1)
def Ce{s0 s1:StV}{L:LH}:Ent (bigO stO [s0,s1]::L) (osl aQ 5 tMv s0.mad s0.mcap s0.moves::stP s0::osl aQ 5 tMv s1.mad s1.mcap s1.moves::stP s1::L) :=
 Ent.bigO_uncons.trans ((Ent.l8 (A:=osl aQ 5 tMv s0.mad s0.mcap s0.moves) (B:=stP s0)).trans (Ent.d7 (Ent.d7 (Ent.bigO_uncons.trans ((Ent.l8 (A:=osl aQ 5 tMv s1.mad s1.mcap s1.moves) (B:=stP s1)).trans (Ent.d7 (Ent.d7 Ent.drop)))))))
def Cf{f0 f1:FlV}{L:LH}:Ent (bigO flO [f0,f1]::L) (osl ao 3 tLot f0.pad f0.pcap f0.m.parts::osl (encZ .i64) 1 tInt f0.mad f0.mcap f0.m.made::osl ao 3 tLot f1.pad f1.pcap f1.m.parts::osl (encZ .i64) 1 tInt f1.mad f1.mcap f1.m.made::L) :=
 Ent.bigO_uncons.trans ((Ent.l8 (A:=osl ao 3 tLot f0.pad f0.pcap f0.m.parts) (B:=osl (encZ .i64) 1 tInt f0.mad f0.mcap f0.m.made)).trans (Ent.d7 (Ent.d7 (Ent.bigO_uncons.trans ((Ent.l8 (A:=osl ao 3 tLot f1.pad f1.pcap f1.m.parts) (B:=osl (encZ .i64) 1 tInt f1.mad f1.mcap f1.m.made)).trans (Ent.d7 (Ent.d7 Ent.drop)))))))
def DY{c:CatV}{sad fad:OA}{sc fc:Nat}{s0 s1:StV}{f0 f1:FlV}{L:LH}:Ent (osl aQ 5 tMv s0.mad s0.mcap s0.moves::stP s0::osl aQ 5 tMv s1.mad s1.mcap s1.moves::stP s1::osl ao 3 tLot f0.pad f0.pcap f0.m.parts::osl (encZ .i64) 1 tInt f0.mad f0.mcap f0.m.made::osl ao 3 tLot f1.pad f1.pcap f1.m.parts::osl (encZ .i64) 1 tInt f1.mad f1.mcap f1.m.made::osl aL 7 bB sad sc [s0,s1]::osl aM 11 bY fad fc [f0,f1]::catP c::L) (iK c sad fad s0 s1 f0 f1 L):=by
 refine Ent.freezeSl.trans ?_;refine(Ent.at (A:=osl ao 3 tLot f0.pad f0.pcap f0.m.parts) Ent.freezeSl).trans ?_;refine(Ent.at (A:=osl (encZ .i64) 1 tInt f0.mad f0.mcap f0.m.made) Ent.freezeSl).trans ?_;refine(Ent.at (A:=osl (encZ .i64) 1 tInt f1.mad f1.mcap f1.m.made) Ent.freezeSl).trans ?_;refine(Ent.at (A:=osl aL 7 bB sad sc [s0,s1]) Ent.freezeSl).trans ?_;refine(Ent.at (A:=osl aM 11 bY fad fc [f0,f1]) Ent.freezeSl).trans ?_;exact ae
