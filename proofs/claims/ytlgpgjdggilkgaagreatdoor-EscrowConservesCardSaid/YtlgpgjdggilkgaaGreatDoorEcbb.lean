/- Lemmas. -/
import Derived.Test.YtlgpgjdggilkgaaGreatDoorEcba
set_option linter.all false
set_option maxHeartbeats 4000000
namespace Go.Proofs.YtlgpgjdggilkgaaGreatDoor
section
open Go.V
attribute [local irreducible] G GO GP GPW GPK GF GE Ev Ef EfR Ent CB GB V.Enters
structure LedFG (S:LedM) (x:LedX):Prop where
 cat:x.cat.m=S.cat
 catB:x.cat.B
 stk:∀a i,(gI x.stk (a,i)).lots=S.stk a i
 full:∀p∈x.stk,p.2.lots≠[]
 tot:∀i,(glk x.tot i).getD 0=S.tot i
 steps:x.steps.map StV.m=S.steps
 flows:x.flows.map (·.m)=S.flows
 imp:SetS (gI x.imp) (cz S.flows)
 ret:SetS (gI x.ret) (fT S.flows)
def jb(b:Nat)(S:LedM)(x:LedX):LH:=cY (LedFG S x)::ledL b S.shard x []
def aS(b:Nat)(S:LedM):HP:=hex fun x=>cm (jb b S x)
def iU{b:Nat}{S:LedM}{L:LH}(x:LedX)(h:LedFG S x):Ent (ledL b S.shard x L) (aS b S::L) :=
 Ent.g8 (f:=jb b S) x (Ent.pure h (Ent.refl _))
def IG{S:LedM}{x:LedX}(h:LedFG S x):xnow x=S.now:=by
 unfold LedM.now xnow;rw[←h.steps,List.getLast?_map,Option.map_map];rfl
def Hn{sh:Int}{fl:List FlM}{mix:Int→Bool}{s:StM}{W:Wk}{m:MvM}(h:∀f∈W.flows,f.to≠0)(hm:m.to≠0):∀f∈(db sh fl mix s W m).2.flows,f.to≠0:=by
 have h2:∀f∈W.flows++[fE sh fl.length mix s W m],f.to≠0:=fun f hf=>by
  rcases List.mem_append.1 hf with q|q
  ·exact h f q
  ·rw[List.mem_singleton.1 q];exact hm
 unfold db;rw[if_neg hm];split
 ·exact h
 split
 ·exact h
 split
 ·exact h
 ·exact h2
def JE{n:Nat}{m:MvM}(h:mvAP n 9 m):m.to≠0:=by
 have h2:pj 9 m:=h.2.2.2.2.2;exact(show m.to≠0∧iT m.parts m.n from h2).1
abbrev CX:=XE [.ev 13,.ev 14,.ef 15]
def Rn{φ ψ:Prop}(k:ψ)(h:Hid ψ→φ:=by intro k;(repeat (first|refine aa ?_|intro zzz|refine G.dr 62 6 CX ?_));(repeat revert zzz);exact Hid.out k):φ:=h ⟨k⟩
def Ew{L:LH}(b:Nat)(S:LedM)(k:Nat)(hS:LedA k S)(hc:S.cat.Ok)(h0:0≤S.now)(x:LedX)(hF:LedFG S x)(s:StV)(hs:StInG s)(b5:s.moves.length≤s.mcap)(hk:k+mvK s.m.moves≤2000)(hT:∀mx,TakeC mx) :
  Tri Tryz.prog 76 #[ax b,aU (dQ s)] (ledL b S.shard x (stM s::stP s::L)) (fun v L' =>
   ((gTry S s.m).1≠0∧v=.tuple #[.pointer none,ac (gTry S s.m).1]∧L' = ledL b S.shard x (stM s::stP s::L)) ∨
   ((gTry S s.m).1=0∧∃bc s' z,v=.tuple #[ax bc,ac 0]∧(s'.m=s.m.at (cV S)∧WkFG x z S.flows (gTry S s.m).2)∧L' = chgL b bc s' z (ledL b S.shard x (stM s'::stP s'::stM s::stP s::L)))):=by
 obtain⟨a4,d0⟩:=hS.g.shard;have f2:=hS.g.steps;have f1:=hS.g.flows;have e8:x.steps.length=S.steps.length:=by rw[←hF.steps,an]
 have f3:x.flows.length=S.flows.length:=by rw[←hF.flows,an]
 have hB:=hF.catB;have e3:=hs.len;have b2:=hF.cat;have e2:=hB.items;have b0:xnow x=S.now:=IG hF;have c0:cU x=fJ S.cat:=by funext i;unfold cU fJ;rw[←b2];rfl
 refine Tri.bd ?_;simp only[ledL,bW];by_cases h1:65536≤S.steps.length
 ·have e:gTry S s.m=(4,wk0 S):=by unfold gTry;rw[if_pos h1]
  rw[e];refine Rn ?_;intros;exact KX.a8 aA ah (.inl ⟨by dsimp only;omega,rfl,rfl⟩)
 refine Rn ?_;intros;refine GO.ent (Ent.at (A:=stP s) (Ent.refl _)) ?_;refine GO.ent (Ent.at (A:=catP x.cat) (Ent.refl _)) ?_;refine GO.cr (Cy (b:=b) (sh:=S.shard) (x:=x) s hs.parts (b2▸hc) hB ab e3 b5 hs.rule (b0▸h0)) ?_;rw[b2,b0];by_cases h2:gY S.cat S.now s.m
 case neg =>
  have e:gTry S s.m=(1,wk0 S):=by unfold gTry;rw[if_neg h1,if_pos h2]
  rw[e,aW h2];refine Rn ?_;intros;exact KX.a8 aA ah (.inl ⟨by dsimp only;omega,rfl,rfl⟩)
 have e:gTry S s.m=dP S.shard S.flows (fJ S.cat) (s.m.at (cV S)) (wk0 S) s.m.moves:=by unfold gTry;rw[if_neg h1,if_neg (fun h=>h h2)]
 rw[e,bE h2];have hA:=possG_A.1 h2;have d3:=oL h2;have c1:s.m.moves=s.moves.map MvV.m:=rfl;have b7:s.moves.length≤64:=by have:=h2.2.2.2.1.2;rwa [c1,an] at this
 have e5:∀m∈s.moves,m.m.parts.length≤1000000:=fun m hm=>by
  rcases (d3 m.m (by rw[c1];exact alStd0List_mem_map_of_mem hm)).g.parts with q|q
  ·rw[q];decide
  ·have:=q.1.2;omega
 refine Rn ?_;intros;refine GO.ent (Ent.at (A:=stM s) (Ent.a8 (Ent.at (A:=stP s) (Ent.refl _)))) ?_;refine GO.ca (yQ s b7 e5) ?_;rintro _ _⟨s',rfl,c6,rfl⟩;have b4:s'.moves.map MvV.m=s.m.moves:=congrArg StM.moves c6;have e6:s'.moves.length=s.moves.length:=by have:=congrArg List.length b4;rwa [c1,an,an] at this
 have d4:s'.kind=s.kind:=congrArg StM.kind c6;simp only[dQ];refine Rn ?_;intros;refine GO.ef (Ef.d8 kvP Stk.v (.inl rfl)) ae ?_;rintro _ _⟨cs,rfl,rfl⟩;refine Rn ?_;intros;refine GO.ef (Ef.d8 kvI encN (.inl rfl)) ae ?_;rintro _ _⟨ct,rfl,rfl⟩;refine Rn ?_;intros;refine GO.ef (Ef.d8 kvI Stk.v (.inl rfl)) ae ?_;rintro _ _⟨ci,rfl,rfl⟩;refine Rn ?_;intros;refine GO.ef (Ef.d8 kvI Stk.v (.inl rfl)) ae ?_;rintro _ _⟨cr,rfl,rfl⟩;refine Rn ?_;intros;rename_i bc;have e0:S.shard*4294967296+(x.steps.length:Int)=cV S:=by unfold cV;rw[e8]
 rw[e0]
 have b1:(s'.at (cV S)).m=s.m.at (cV S):=by
  show StM.at s'.m (cV S)=_;rw[c6]
 have a5:S.flows++(wk0 S).flows=S.flows:=aH _;have a6:WkFG x ⟨cs,ct,ci,cr,[],[],[],[],[],none,0,[],none,0⟩ S.flows (wk0 S):=⟨fun a i=>hF.stk a i,fun i=>hF.tot i,rfl,rfl,by rw[a5];exact hF.imp,by rw[a5];exact hF.ret⟩
 refine G.loop (α:=Nat×ChG×Wk) (fun g=>g.1≤s'.moves.length∧WkFG x g.2.1 S.flows g.2.2∧WkA S.shard S.flows (k+mvK (s.m.moves.take g.1)) g.2.2∧g.2.2.flows.length=g.1∧(s.kind=9→∀f∈g.2.2.flows,f.to≠0)∧dP S.shard S.flows (fJ S.cat) (s.m.at (cV S)) (wk0 S) s.m.moves=dP S.shard S.flows (fJ S.cat) (s.m.at (cV S)) g.2.2 (s.m.moves.drop g.1))
  (fun g=>[(0,ax b),(4,.pointer none),(5,ac 0),(6,ax bc),(48,ag s'.mad s'.moves.length s'.mcap),(49,ac (s'.moves.length:Int)),(50,ac (g.1:Int))])
  (fun g=>chgL b bc (s'.at (cV S)) g.2.1 (ledL b S.shard x (stM s'::stP s'::stM s::stP s::L))) (fun g=>s'.moves.length - g.1) (0,⟨cs,ct,ci,cr,[],[],[],[],[],none,0,[],none,0⟩,wk0 S) ⟨aw _,a6,Cb hS,rfl,(fun _ f hf=>by cases hf),rfl⟩ aC ?_ ?_
 ·simp only[chgL,ledL,ck,bW,StV.at,bz];refine(Ent.c8 dT 11 fQ).trans ?_;refine(Ent.c8 (encZ .i64) 1 tInt).trans ?_;refine(Ent.c7 (fun p:(Int×Int)×Stk=>stkP p.2)).trans ?_;refine(Ent.c7 (fun p:Int×Stk=>stkP p.2)).trans ?_;refine(Ent.c7 (fun p:Int×Stk=>stkP p.2)).trans ?_;refine(Ent.c7 flP).trans ?_;exact ah
 rintro⟨i,z,W⟩ ⟨hi,hW,hO,d1,c5,a1⟩;dsimp only at hi hW hO d1 c5 a1 ⊢;by_cases b9:i<s'.moves.length
 case neg =>
  have b6:s.m.moves.drop i=[]:=bQ (by rw[←b4,an];omega);rw[b6] at a1;rw[a1];simp only[chgL,ledL,ck,bW];refine Rn ?_;intros;exact KX.a8 aA (Ent.refl _) (.inr ⟨rfl,bc,s'.at (cV S),z,rfl,⟨b1,hW⟩,rfl⟩)
 have e1:(i:Int).toNat=i:=ab;have b3:s'.moves[i]!.m=s.m.moves[i]!:=by rw[←b4];exact(iZ MvV.m b9).symm
 have b8:i<s.m.moves.length:=by rw[←b4,an];exact b9
 have d2:i<s.moves.length:=ab;have d6:s'.moves[i]!.m=s.moves[i]!.m:=b3.trans (iZ MvV.m d2);have b6:s.m.moves.drop i=s'.moves[i]!.m::s.m.moves.drop (i+1):=by rw[b3];exact jl b8
 have a7:s'.moves[i]!.m∈s.m.moves:=by rw[b3];exact aV b8
 have a0:=hA.2.2.2.2.1 s'.moves[i]!.m a7;have a3:=d3 s'.moves[i]!.m a7;have hK:mvK (s.m.moves.take (i+1))=mvK (s.m.moves.take i)+(s'.moves[i]!.m.parts.length+1):=by rw[GX b8,b3]
 have f0:=JD s.m.moves (i+1);have d5:∀p∈s'.moves[i]!.m.parts,p.1≤9223372036854775807:=by rw[d6];exact hs.bd _ (aV d2)
 have e7:s.kind=9→s'.moves[i]!.m.to≠0:=fun h=>JE (n:=S.cat.items.length) (by rw[show s.m.kind=9 from h] at a0;exact a0);rw[b6] at a1;have c4:dP S.shard S.flows (fJ S.cat) (s.m.at (cV S)) W (s'.moves[i]!.m::s.m.moves.drop (i+1))=if(db S.shard S.flows (fJ S.cat) (s.m.at (cV S)) W s'.moves[i]!.m).1=0 then dP S.shard S.flows (fJ S.cat) (s.m.at (cV S)) (db S.shard S.flows (fJ S.cat) (s.m.at (cV S)) W s'.moves[i]!.m).2 (s.m.moves.drop (i+1)) else((db S.shard S.flows (fJ S.cat) (s.m.at (cV S)) W s'.moves[i]!.m).1,W):=rfl;rw[c4] at a1;have e4:=BO (mix:=fJ S.cat) (s:=s.m.at (cV S)) (m:=s'.moves[i]!.m) a4 hO a3 ab;have a9:=sx (mix:=fJ S.cat) (s:=s.m.at (cV S)) (m:=s'.moves[i]!.m) a4 hO.g a3.g ab;have c2:=fun h9:s.kind=9=>Hn (sh:=S.shard) (fl:=S.flows) (mix:=fJ S.cat) (s:=s.m.at (cV S)) (m:=s'.moves[i]!.m) (c5 h9) (e7 h9);have a2:=Dy (L:=stM s'::stP s'::stM s::stP s::L) b bc S.shard x (s'.at (cV S)) z s'.moves[i]! W S.flows (k+mvK (s.m.moves.take i)) hF.flows hW hO (show MvA s'.kind s'.moves[i]!.m by rw[d4];exact a3) ab ⟨a0.1.1,by have h4:=a0.1.2;rw[←b2] at h4;simpa [CatV.m] using h4⟩ d5 (fun h=>c5 (by rw[←d4];exact h)) ⟨a4,d0⟩ ab ab hT e2;rw[b1,c0] at a2;have c3:(db S.shard S.flows (fJ S.cat) (s.m.at (cV S)) W s'.moves[i]!.m).1=0→(db S.shard S.flows (fJ S.cat) (s.m.at (cV S)) W s'.moves[i]!.m).2.flows.length=W.flows.length+1:=fun h=>by rw[(a9 h).2,aj,aI]
 clear a9;generalize db S.shard S.flows (fJ S.cat) (s.m.at (cV S)) W s'.moves[i]!.m=r at *;refine G.ent (L':=isl aG 3 s'.moves[i]!.pad s'.moves[i]!.m.parts::chgL b bc (s'.at (cV S)) z (ledL b S.shard x (stM s'::stP s'::stM s::stP s::L))) (by simp only[chgL,ledL];exact(Ent.at (A:=stP s') (Il b9)).trans ah) ?_;simp only[chgL,ledL,ck,bW,stM];refine Rn ?_;intros;rw[e1];refine GO.ent Ent.drop ?_;refine GO.ca (a2) ?_;rintro _ _⟨z',rfl,e9,rfl⟩;by_cases hr:r.1=0
 ·rw[if_pos hr] at a1;simp only[chgL,ledL,ck,bW];refine Rn ?_;intros;refine⟨(i+1,z',r.2),⟨by dsimp only;omega,e9 hr,by dsimp only;rw[hK,←dS,←dS];exact e4 hr,by dsimp only;rw[c3 hr,d1],c2,a1⟩,by dsimp only;omega,?_,Ent.refl _⟩;dsimp only;rw[bh i];exact aC
 ·rw[if_neg hr] at a1;rw[a1];simp only[chgL,ledL,ck,bW];refine Rn ?_;intros;exact KX.en (.inl ⟨hr,rfl,rfl⟩)
end
section
open Go.V
def DN{sh:Int}{fl:List FlM}{mix:Int→Bool}{s:StM}{N:Nat}{W:Wk}{m:MvM}(h1:W.sunk.length≤W.flows.length)(h2:W.flows.length≤N)(h3:∀f∈W.flows,f.made.length≤N):(db sh fl mix s W m).2.sunk.length≤(db sh fl mix s W m).2.flows.length∧(db sh fl mix s W m).2.flows.length≤W.flows.length+1∧∀f∈(db sh fl mix s W m).2.flows,f.made.length≤N:=by
 have hn:∀f∈W.flows++[fE sh fl.length mix s W m],f.made.length≤N:=fun f hf=>by
  rcases List.mem_append.1 hf with h|h
  ·exact h3 f h
  ·rw[List.mem_singleton.1 h];show(jr s W m).length≤N;unfold jr;split
   ·omega
   ·exact aw _
 have hl:(W.flows++[fE sh fl.length mix s W m]).length=W.flows.length+1:=by rw[aj,aI]
 unfold db;split
 ·exact⟨h1,Nat.le_succ _,h3⟩
 ·split
  ·exact⟨h1,Nat.le_succ _,h3⟩
  ·split
   ·refine⟨?_,Nat.le_of_eq hl,hn⟩;show(W.sunk++[eU sh fl.length W]).length≤(W.flows++[fE sh fl.length mix s W m]).length;rw[hl,aj,aI];omega
   ·split
    ·exact⟨h1,Nat.le_succ _,h3⟩
    ·refine⟨?_,Nat.le_of_eq hl,hn⟩;show W.sunk.length≤(W.flows++[fE sh fl.length mix s W m]).length;rw[hl];omega
def rF{sh:Int}{fl:List FlM}{mix:Int→Bool}{s:StM}{N:Nat}:∀(ms:List MvM) (W:Wk),W.sunk.length≤W.flows.length→W.flows.length+ms.length≤N→(∀f∈W.flows,f.made.length≤N)→∀f∈(dP sh fl mix s W ms).2.flows,f.made.length≤N
 | [],_,_,_,h=>h
 | m::ms,W,h1,h2,h3=>by
  have e:dP sh fl mix s W (m::ms)=if(db sh fl mix s W m).1=0 then dP sh fl mix s (db sh fl mix s W m).2 ms else((db sh fl mix s W m).1,W):=rfl;rw[aM] at h2;obtain⟨g1,g2,g3⟩:=DN (sh:=sh) (fl:=fl) (mix:=mix) (s:=s) (N:=N) (m:=m) h1 ab h3;rw[e];split
  ·exact rF ms _ g1 ab g3
  ·exact h3
def uB{S:LedM}{s:StM}(h:(gTry S s).1=0):gTry S s=dP S.shard S.flows (fJ S.cat) (s.at (cV S)) (wk0 S) s.moves:=by
 by_cases h1:65536≤S.steps.length
 ·have e:gTry S s=(4,wk0 S):=by unfold gTry;rw[if_pos h1]
  rw[e] at h;exact absurd (show(4:Int)=0 from h) ae
 have h2:=jg h;unfold gTry;rw[if_neg h1,if_neg (fun q=>q h2)]
def LRep.made{sh:Int}{c:CatM}{S:LedM}(h:LRep sh c S):∀f∈S.flows,f.made.length≤64:=by
 induction h with
 | zero=>intro f hf;cases hf
 | @post S s _ h0 ih =>
  have e1:ce S s=fV S s:=if_pos h0;have hp:=jg h0;have hl:=hp.2.2.2.1.2;rw[e1];intro f hf;rcases List.mem_append.1 (show f∈S.flows++(gTry S s).2.flows from hf) with q|q
  ·exact ih f q
  ·rw[uB h0] at q;exact rF (N:=64) s.moves (wk0 S) (aq _) (by show 0+_≤64;omega) (fun f hf=>by cases hf) f q
def rD{κ α:Type}[DecidableEq κ]{q:κ×α}:∀{n m:List (κ×α)},q∈ir m n→q∈m∨q∈n
 | [],_,h=>.inl h
 | p::n,m,h=>by
  rcases rD (n:=n) (m:=gins m p.1 p.2) h with h1|h1
  ·rcases List.mem_cons.1 (sq q h1) with h2|h2
   ·exact .inr (by rw[h2];exact av)
   ·exact .inl h2
  ·exact .inr (au _ h1)
def wC{m z x:List (Int×Stk)}(h:∀k,glk m k=(glk z k).or (glk x k)):gI m=uOf z x:=by
 funext k;unfold gI uOf;rw[h k];cases glk z k<;>rfl
def sw{k:Nat}{S:LedM}{s:StM}(hS:LedA k S)(hk:k+mvK s.moves≤2000)(h:(gTry S s).1=0):S.steps.length<65536∧gY S.cat S.now s∧(gTry S s).2.flows.length=s.moves.length:=by
 have h2:=jg h;have e:=uB h;have h3:=h;rw[e] at h3;have h4:=(qw hS.g.shard.1 (Cb hS).g (fun m hm=>(oL h2 m hm).g) hk h3).2;rw[e];refine⟨Classical.byContradiction fun q=>?_,h2,?_⟩
 ·unfold gTry at h;rw[if_pos ab] at h;exact absurd (show(4:Int)=0 from h) ae
 ·rw[h4];show 0+s.moves.length=_;omega
attribute [local irreducible] G GO GP GPW GPK GF GE Ev Ef EfR Ent CB GB V.Enters
def rK(d s:Nat)(m n:List (Int×Stk)) :
  Tri Tryz.prog 78 #[.map (some d),.map (some s)] [gmap kvI Stk.v d m,gmap kvI Stk.v s n] (fun _ L'=>∃m',((∀k,glk m' k=(glk n k).or (glk m k))∧∀q∈m',q∈m∨q∈n)∧L' = [gmap kvI Stk.v d m']):=by
 refine Tri.bd ?_;refine G.ent Ent.swap ?_;refine G.c9 (fi (b:=s) (kv:=kvI) (enc:=Stk.v) (m:=n)) ?_;intro hn;refine Ks ?_;intros;refine GO.ef (Ef.j7 rfl) ae ?_;rintro _ _⟨r,rfl,rfl⟩;refine Ks ?_;intros;refine G.loop (α:=List (Int×Stk)) (fun z=>z.length≤n.length) (fun z=>[(0,.map (some d)),(7,ax r)]) (fun z=>[gE kvI Stk.v s n r z,gmap kvI Stk.v d (ir m z)]) (fun z=>n.length - z.length) [] (aw _) aC (Ent.refl _) ?_;intro z hz;refine Ks ?_;intros;refine GO.ef (Ef.k7 rfl) ae ?_;rintro _ _ (⟨rfl,rfl,hp⟩|⟨p,rfl,rfl,a0,a1,hl⟩)
 ·refine Ks ?_;intros;refine KX.c8 aA Ent.drop ⟨ir m z,⟨fun k=>?_,fun q hq=>?_⟩,rfl⟩
  ·rw[nU k z m ((hp.map _).nodup_iff.2 hn),si hp hn]
  ·rcases rD hq with h1|h1
   ·exact .inl h1
   ·exact .inr (hp.mem_iff.1 h1)
 refine Ks ?_;intros;refine GO.ev (Ev.j9 (done:=z) rfl rfl) ae ?_;refine Ks ?_;intros;refine GO.efu (Ef.c9 (enc:=Stk.v) (e:=p.2) rfl rfl rfl rfl) ?_;rintro _ _ rfl;refine Ks ?_;intros;refine⟨z++[p],by simp;omega,by simp;omega,aC,?_⟩;rw[show ir m (z++[p])=gins (ir m z) p.1 p.2 by simp[ir]];exact ah
abbrev CW:=XA [.ev 4,.ef 5]
abbrev CV:=XB [.ef 6]
abbrev zL:=XC [.ef 8]
abbrev zK:=XC [.ef 8]
abbrev zJ:=XC [.ef 8]
abbrev zI:=XC [.ev 8,.ef 9,.ev 10,.ev 11,.ef 12]
abbrev zH:=XC [.ev 8,.ef 9,.ef 10,.ev 11,.ev 12,.ef 13]
def RA{φ ψ:Prop}(k:ψ)(h:Hid ψ→φ:=by intro k;(repeat (first|refine aa ?_|intro zzz|refine G.dr 100 8 CW ?_|refine G.dr 100 9 CV ?_|refine G.dr 100 10 zL ?_|refine G.dr 100 11 zK ?_|refine G.dr 100 12 zJ ?_|refine G.dr 100 13 zI ?_|refine G.dr 100 14 zH ?_));(repeat revert zzz);exact Hid.out k):φ:=h ⟨k⟩
def kO{L:LH}(b:Nat)(S:LedM)(k:Nat)(hS:LedA k S)(hc:S.cat.Ok)(h0:0≤S.now)(s:StV)(hs:StInG s)(a3:s.moves.length≤s.mcap)(hk:k+mvK s.m.moves≤2000)(hT:∀mx,TakeC mx) :
  Tri Tryz.prog 30 #[ax b,aU (dQ s)] (aS b S::stM s::stP s::L) (rtQ (.tuple #[ac (gRes S s.m),ac (gTry S s.m).1]) (aS b (ce S s.m)::stM s::stP s::L)):=by
 obtain⟨b8,b9⟩:=hS.g.shard;have c5:=hS.g.steps;have c1:=hS.g.flows;refine Tri.bd ?_;refine G.c8 (f:=jb b S) ?_;intro x;simp only[jb,ledL,al,ak];refine G.d7 ?_;intro hF;have d0:x.steps.length=S.steps.length:=by rw[←hF.steps];simp
 have c6:x.flows.length=S.flows.length:=by rw[←hF.flows];simp
 refine RA ?_;intros;refine GO.ent Ent.drop ?_;refine GO.ca (Ew b S k hS hc h0 x hF s hs a3 hk hT) ?_;rintro _ _ (⟨he,rfl,rfl⟩|⟨he,bc,s',z,rfl,⟨b4,hW⟩,rfl⟩)
 ·have e1:ce S s.m=S:=if_neg he;have e2:gRes S s.m=0:=if_neg he;rw[e1,e2];refine RA ?_;intros;exact KX.a8 aA (iU x hF) ⟨rfl,rfl⟩
 have e1:ce S s.m=fV S s.m:=if_pos he;have e2:gRes S s.m=cV S:=if_pos he;obtain⟨o1,o2,o4⟩:=sw hS hk he;have c2:s.m.moves.length≤64:=o2.2.2.2.1.2
 have d1:z.flows.length≤64:=by
  have:=congrArg List.length hW.flows
  rw[an] at this;omega
 have c0:0<z.flows.length:=by
  have h1:=congrArg List.length hW.flows;rw[an] at h1;have h2:=o2.2.2.2.1.1;omega
 have a7:s'.id=cV S:=congrArg StM.id b4;rw[e1,e2,he];simp only[chgL,ledL,ck,bW];refine RA ?_;intros;refine GO.g9 (fi (b:=z.cs) (kv:=kvP) (enc:=Stk.v) (m:=z.stk)) ?_;intro b2;refine GO.ef (Ef.j7 rfl) ae ?_;rintro _ _⟨r,rfl,rfl⟩;refine RA ?_;intros
 refine G.loop (α:=List ((Int×Int)×Stk)) (fun g=>g.length≤z.stk.length) (fun _=>[(0,ax b),(6,ax bc),(23,ax r)])
  (fun g=>gE kvP Stk.v z.cs z.stk r g::gmap kvP Stk.v x.ms (iL x.stk g)::obj bc tCh (ck b s' z)::gmap kvI encN z.ct z.tot::gmap kvI Stk.v z.ci z.imp::gmap kvI Stk.v z.cr z.ret::osl dT 11 fQ z.fad z.fcap z.flows::allP (fun p:(Int×Int)×Stk=>stkP p.2) z.stk::allP flP z.flows::allP (fun p:Int×Stk=>stkP p.2) z.imp::allP (fun p:Int×Stk=>stkP p.2) z.ret::obj b tLed (bW S.shard x)::gmap kvI encN x.mt x.tot::asl dQ 7 ik x.sad x.scap x.steps::asl dT 11 fQ x.fad x.fcap x.flows::gmap kvI Stk.v x.mi x.imp::gmap kvI Stk.v x.mr x.ret::catP x.cat::allP (fun p:(Int×Int)×Stk=>stkP p.2) x.stk::allP iO x.steps::allP flP x.flows::allP (fun p:Int×Stk=>stkP p.2) x.imp::allP (fun p:Int×Stk=>stkP p.2) x.ret::stM s'::stP s'::stM s::stP s::L)
  (fun g=>z.stk.length - g.length) [] (aw _) aC ?_ ?_
 ·simp only[iL,List.foldl_nil];exact ah
 intro g hg;simp only[ck,bW];refine RA ?_;intros;refine GO.ef (Ef.k7 rfl) ae ?_;rintro _ _ (⟨rfl,rfl,hp⟩|⟨p,rfl,rfl,c3,c4,hl⟩)
 case inr =>
  have b3:iL x.stk (g++[p])=putS (iL x.stk g) p:=by simp[iL]
  refine RA ?_;intros;refine GO.ev (Ev.j9 (done:=g) rfl rfl) ae ?_;simp only[kvP,Stk.v,aF,bG];by_cases h0:p.2.lots.length=0
  ·have a5:putS (iL x.stk g) p=gera (iL x.stk g) p.1:=if_pos h0;refine RA ?_;intros;refine GPW.efu (Ef.l9 rfl rfl) ?_;rintro _ _ rfl;refine RA ?_;intros;refine⟨g++[p],by simp;omega,by simp;omega,aC,?_⟩;rw[b3,a5];exact ah
  ·have a5:putS (iL x.stk g) p=gins (iL x.stk g) p.1 p.2:=if_neg h0;refine RA ?_;intros;refine GPW.efu (Ef.c9 (enc:=Stk.v) (e:=p.2) rfl rfl rfl rfl) ?_;rintro _ _ rfl;refine RA ?_;intros;refine⟨g++[p],by simp;omega,by simp;omega,aC,?_⟩;rw[b3,a5];exact ah
 refine RA ?_;intros;(first|refine GPW.ef (Ef.call (Ec x.mt z.ct x.tot z.tot) rfl dd) ae ?_);rintro _ _⟨_,⟨m',b6,rfl⟩,hL⟩;simp only[al,ak] at hL;subst hL;refine RA ?_;intros;(first|refine GPW.ef (Ef.call (rK x.mi z.ci x.imp z.imp) rfl dd) ae ?_);rintro _ _⟨_,⟨a9,⟨b5,a4⟩,rfl⟩,hL⟩;simp only[al,ak] at hL;subst hL;refine RA ?_;intros;(first|refine GPW.ef (Ef.call (rK x.mr z.cr x.ret z.ret) rfl dd) ae ?_);rintro _ _⟨_,⟨b0,⟨b7,a6⟩,rfl⟩,hL⟩;simp only[al,ak] at hL;subst hL;refine RA ?_;intros;refine GPW.ef (Ef.l0 (enc:=dT) (ys:=z.flows) rfl rfl rfl rfl rfl c0 (fun e _=>lW e) ab ab) ae ?_;rintro _ _⟨a2,a0,rfl,rfl⟩;refine RA ?_;intros;refine GPW.ef (Ef.j6 (enc:=dQ) (e:=s') rfl rfl rfl rfl rfl aQ (tS _) ab ab) ae ?_;rintro _ _⟨b1,a1,rfl,rfl⟩;refine RA ?_;intros;rw[a7];refine KX.a8 aA ?_ ⟨rfl,rfl⟩;refine Ent.trans ?_ (iU (S:=fV S s.m) { x with stk:=iL x.stk g,tot:=m',imp:=a9,ret:=b0,steps:=x.steps++[s'],sad:=b1,scap:=a1,flows:=x.flows++z.flows,fad:=a2,fcap:=a0 } ⟨hF.cat,hF.catB,?_,?_,?_,?_,?_,?_,?_⟩)
 ·simp only[ledL,bW,fV];refine(Ent.at (A:=stP s') (Ent.refl _)).trans ?_;refine(Ent.at (A:=stM s') (Ent.refl _)).trans ?_;refine(Ent.f8 (Cp s') (cH kl)).trans ?_;refine(Ent.at (A:=allP iO x.steps) (Ent.refl _)).trans ?_;refine((Ent.a8 (Ent.d8 (f:=iO) (x:=s') qQ)).trans (Ent.d7 qQ)).trans ?_;refine(Ent.at (A:=allP flP z.flows) (Ent.refl _)).trans ?_;refine(Ent.at (A:=allP flP x.flows) (Ent.refl _)).trans ?_;refine(Ent.d7 tP).trans ?_;refine(Ent.at (A:=allP (fun p:(Int×Int)×Stk=>stkP p.2) z.stk) (Ent.refl _)).trans ?_;refine(Ent.at (A:=allP (fun p:(Int×Int)×Stk=>stkP p.2) x.stk) (Ent.refl _)).trans ?_;refine(Ent.d7 (f:=fun p:(Int×Int)×Stk=>stkP p.2) (fun p=>ta p.2)).trans ?_;refine(Ent.g9 (l':=iL x.stk g) (fun q hq=>?_)).trans ?_
  ·rcases oK hq with h1|h1
   ·exact bM _ h1
   ·exact bK _ (hp.mem_iff.1 h1.1)
  refine(Ent.at (A:=allP (fun p:Int×Stk=>stkP p.2) z.imp) (Ent.refl _)).trans ?_;refine(Ent.at (A:=allP (fun p:Int×Stk=>stkP p.2) x.imp) (Ent.refl _)).trans ?_;refine(Ent.d7 (f:=fun p:Int×Stk=>stkP p.2) (fun p=>ta p.2)).trans ?_;refine(Ent.g9 (l':=a9) (fun q hq=>List.mem_append.2 (a4 q hq))).trans ?_;refine(Ent.at (A:=allP (fun p:Int×Stk=>stkP p.2) z.ret) (Ent.refl _)).trans ?_;refine(Ent.at (A:=allP (fun p:Int×Stk=>stkP p.2) x.ret) (Ent.refl _)).trans ?_;refine(Ent.d7 (f:=fun p:Int×Stk=>stkP p.2) (fun p=>ta p.2)).trans ?_;refine(Ent.g9 (l':=b0) (fun q hq=>List.mem_append.2 (a6 q hq))).trans ?_;exact ah
 ·intro a i;rw[pO _ _ _ ((hp.map _).nodup_iff.2 b2),si hp b2];exact hW.stk a i
 ·intro q hq;rcases oK hq with h1|h1
  ·exact hF.full q h1
  ·exact h1.2
 ·intro i;dsimp only;rw[b6,IC];exact hW.tot i
 ·show(x.steps++[s']).map StV.m=S.steps++[s.m.at (cV S)];rw[aJ,hF.steps,←b4];rfl
 ·show(x.flows++z.flows).map (·.m)=S.flows++(gTry S s.m).2.flows;rw[aJ,hF.flows];exact congrArg _ hW.flows
 ·show SetS (gI a9) (cz (S.flows++(gTry S s.m).2.flows));rw[wC b5];exact hW.imp
 ·show SetS (gI b0) (fT (S.flows++(gTry S s.m).2.flows));rw[wC b7];exact hW.ret
end
section
open Go.V
def sumA(f:Int→Int):List Int→Int
 | []=>0
 | a::l=>f a+sumA f l
def Kp(stk:Int→Int→LL)(F:List FlM):Prop:=∀a i,stk a i≠[]→∃f∈F,f.to=a∧f.item=i
structure BalI (stk:Int→Int→LL) (tot:Int→Int) (fl:List FlM):Prop where
 sum:∀i (A:List Int),A.Nodup→0∉A→sumA (fun a=>lsum (stk a i)) A≤tot i
 wld:∀i,stk 0 i=[]
 src:Kp stk fl
 top:∀i,tot i≤1099511627776
def BalI.nn{stk:Int→Int→LL}{tot:Int→Int}{fl:List FlM}(h:BalI stk tot fl)(i:Int):0≤tot i:=h.sum i [] dY ay
def BalI.le{stk:Int→Int→LL}{tot:Int→Int}{fl:List FlM}(h:BalI stk tot fl){a:Int}(ha:a≠0)(i:Int):lsum (stk a i)≤tot i:=by
 have:=h.sum i [a] cc (by simpa using fun q:0=a=>ha q.symm)
 have e:sumA (fun a=>lsum (stk a i)) [a]=lsum (stk a i)+0:=rfl;omega
inductive AccL:LedM→List StM→LedM→Prop
 | nil (S:LedM):AccL S [] S
 | cons {S S' : LedM} {s:StM} {ss:List StM}:(gTry S s).1=0→s.id=cV S→AccL (ce S s) ss S'→AccL S (s::ss) S'
def AccL.snoc{S' : LedM}{s:StM}:∀{ss:List StM} {S:LedM},AccL S ss S'→(gTry S' s).1=0→AccL S (ss++[s.at (cV S')]) (ce S' s)
 | [],_,.nil _,h=>.cons (s:=s.at (cV S')) h rfl (.nil _)
 | u::ss,S,.cons h1 h2 h3,h=>.cons h1 h2 (AccL.snoc h3 h)
def LRep.acc{sh:Int}{c:CatM}{S:LedM}(h:LRep sh c S):AccL (led0 sh c) S.steps S:=by
 induction h with
 | zero=>exact .nil _
 | post h1 h2 ih =>
  have e:(ce _ _).steps=_:=congrArg LedM.steps (if_pos h2);rw[e];exact AccL.snoc (S:=led0 sh c) ih h2
def AccL.pre:∀{ss:List StM} {S S' : LedM},AccL S ss S'→∃z,S'.flows=S.flows++z
 | [],_,_,.nil _=>⟨[],(aH _).symm⟩
 | s::ss,S,S',.cons h1 h2 h3=>by
  obtain⟨z,hz⟩:=h3.pre;obtain⟨w,hw⟩:=rE S s;exact⟨w++z,by rw[hz,hw,aB]⟩
structure AbsW (n:Nat) (stk:Int→Int→LL) (tot:Int→Int) (t:List Int) (f:Int→Int→Int):Prop where
 len:t.length=n
 t:∀i:Nat,i<n→t[i]! = tot i
 f:∀a i,f a i=if a=0 then 0 else lsum (stk a i)
def it22:List ItG:=[⟨⟨#[103,111,108,100]⟩,false,false,true,0,0,0⟩,⟨⟨#[111,114,101]⟩,false,false,false,0,0,0⟩,⟨⟨#[100,117,115,116]⟩,false,true,false,0,0,0⟩,⟨⟨#[103,101,109]⟩,false,false,false,0,0,0⟩]
def cat22:CatM:=⟨it22,[],[],[]⟩
def jw(bi:Nat):CatV:=⟨it22,some ⟨bi,0,none⟩,4,[],none,0,[],none,0,[],none,0⟩
def Hz(bi:Nat):(jw bi).B:=by
 refine⟨aT rfl,aT rfl,aT rfl,aT rfl,?_,?_,?_⟩<;>intro r hr<;>cases hr
attribute [local irreducible] G GO GP GPW GPK GF GE Ev Ef EfR Ent CB GB V.Enters
def uM{L:LH}:Tri Tryz.prog 47 #[] L (fun v L'=>∃c:CatV,v=aU c.cells∧(c.m=cat22∧c.B)∧L' = catP c::L):=by
 refine Tri.bd ?_;refine Ks ?_;intros;rename_i b0 bi;refine KX.a8 (vs:=[.agg (jw bi).cells.toArray]) (ResOk.cell rfl aQ ResOk.nil) ?_ ⟨jw bi,rfl,⟨rfl,Hz bi⟩,rfl⟩;refine(Ent.n8 (b:=bi) (enc:=dL) (sz:=7) it22 rfl (fun _ _=>rfl) (aT rfl)).trans ?_;refine(Ent.c7 txP).trans ((Ent.d9 eg 2 none).trans (Ent.trans (Ent.f8 (bO _ _ _ _) (cH nj)) ?_));refine(Ent.c7 tbP).trans ((Ent.d9 eh 2 none).trans (Ent.trans (Ent.f8 (bO _ _ _ _) (cH lE)) ?_));refine(Ent.f8 (tV (jw bi)) (tU (jw bi))).trans ?_;refine(Ent.c7 ruP).trans ((Ent.d9 dE 9 none).trans (Ent.trans (Ent.f8 (bO _ _ _ _) (cH mq)) ?_));refine(Ent.f8 (yU (jw bi)) ((tV (jw bi)).and (tU (jw bi)))).trans ?_;refine(Ent.swap.trans (Ent.f8 (Gc (jw bi)) ((yU (jw bi)).and ((tV (jw bi)).and (tU (jw bi)))))).trans ?_;exact Ent.a8 Ent.drop
