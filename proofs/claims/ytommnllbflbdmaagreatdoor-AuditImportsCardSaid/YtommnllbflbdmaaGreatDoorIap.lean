/- Lemmas. -/
import Derived.Test.YtommnllbflbdmaaGreatDoorIao
set_option linter.all false
set_option maxHeartbeats 2000000
namespace Go.Proofs.YtommnllbflbdmaaGreatDoor
section
open Go.V
attribute [local irreducible] G GO GP GPW GPK Ev Ef EfR Ent CB GB Enters
section plain
variable {κ α:Type}[DecidableEq κ]
def ro(p:κ×α)(l:List (κ×α))(k:κ):glk (p::l) k=if k=p.1 then some p.2 else glk l k:=by
 obtain⟨q,a⟩:=p;unfold glk;rw[dh];by_cases h:k=q
 ·subst h;simp
 ·have hb:(k == q)=false:=by simpa using h
  simp only[hb,if_neg h]
def km(m:List (κ×α))(k q:κ)(a:α):glk (gins m k a) q=if q=k then some a else glk m q:=ix
def Fa(m:List (κ×α))(k q:κ):glk (gera m k) q=if q=k then none else glk m q:=zx
def wR{l:List (κ×α)}{k:κ}(h:k∉l.map (·.1)):glk l k=none:=by
 induction l with
 | nil=>rfl
 | cons p l ih =>
  simp only[bO,bz,not_or] at h;rw[ro,if_neg h.1,ih h.2]
def wQ{l l' : List (κ×α)}(hp:l.Perm l')(hn:(l'.map (·.1)).Nodup)(k:κ):glk l k=glk l' k:=by
 have a0:(l.map (·.1)).Nodup:=(hp.map _).nodup_iff.2 hn;cases h:glk l k with
 | some a=>exact(lh hn (hp.mem_iff.1 (jz h))).symm
 | none =>
  cases h2:glk l' k with
  | none=>rfl
  | some a =>
   have h3:glk l k=some a:=lh a0 (hp.mem_iff.2 (jz h2));rw[h] at h3;cases h3
def kF(m n:List (κ×α)):List (κ×α):=n.foldl (fun m p=>gins m p.1 p.2) m
def qG(k:κ):∀(n m:List (κ×α)),(n.map (·.1)).Nodup→glk (kF m n) k=(glk n k).or (glk m k)
 | [],m,_=>rfl
 | p::n,m,hn=>by
  simp only[bO,dQ] at hn;have ih:=qG k n (gins m p.1 p.2) hn.2;have e:kF m (p::n)=kF (gins m p.1 p.2) n:=rfl;rw[e,ih,ro,km];by_cases h:k=p.1
  ·rw[if_pos h,if_pos h,wR (h▸hn.1)];rfl
  ·rw[if_neg h,if_neg h]
end plain
def putS(m:List ((Int×Int)×Stk))(p:(Int×Int)×Stk):List ((Int×Int)×Stk):=if p.2.lots.length=0 then gera m p.1 else gins m p.1 p.2
def iB(m n:List ((Int×Int)×Stk)):List ((Int×Int)×Stk):=n.foldl putS m
def rV(m:List ((Int×Int)×Stk))(p:(Int×Int)×Stk)(k:Int×Int):(fW (putS m p) k).lots=if k=p.1 then p.2.lots else(fW m k).lots:=by
 unfold fW putS;by_cases h0:p.2.lots.length=0
 ·rw[if_pos h0,Fa];by_cases h:k=p.1
  ·rw[if_pos h,if_pos h,aW h0];rfl
  ·rw[if_neg h,if_neg h]
 ·rw[if_neg h0,km];by_cases h:k=p.1
  ·rw[if_pos h,if_pos h];rfl
  ·rw[if_neg h,if_neg h]
def oZ(k:Int×Int):∀(n m:List ((Int×Int)×Stk)),(n.map (·.1)).Nodup→(fW (iB m n) k).lots=((glk n k).getD (fW m k)).lots
 | [],m,_=>rfl
 | p::n,m,hn=>by
  simp only[bO,dQ] at hn;have ih:=oZ k n (putS m p) hn.2;have e:iB m (p::n)=iB (putS m p) n:=rfl;rw[e,ih,ro];by_cases h:k=p.1
  ·rw[if_pos h,wR (h▸hn.1)];have h2:=rV m p k;rw[if_pos h] at h2;exact h2
  ·rw[if_neg h];cases glk n k with
   | some s=>rfl
   | none =>
    have h2:=rV m p k;rw[if_neg h] at h2;exact h2
def EI{m:List ((Int×Int)×Stk)}{p q:(Int×Int)×Stk}(h:q∈putS m p):q∈m∨(q=p∧p.2.lots≠[]):=by
 unfold putS at h;split at h
 ·exact .inl (List.mem_filter.1 h).1
 ·rename_i h0;rcases List.mem_cons.1 (wS q h) with h1|h1
  ·exact .inr ⟨h1,fun h=>h0 (by rw[h];rfl)⟩
  ·exact .inl h1
def ou{q:(Int×Int)×Stk}:∀{n m:List ((Int×Int)×Stk)},q∈iB m n→q∈m∨(q∈n∧q.2.lots≠[])
 | [],m,h=>.inl h
 | p::n,m,h=>by
  rcases ou (n:=n) (m:=putS m p) h with h1|h1
  ·rcases EI h1 with h2|h2
   ·exact .inl h2
   ·exact .inr ⟨by rw[h2.1];exact au ..,by rw[h2.1];exact h2.2⟩
  ·exact .inr ⟨aq _ h1.1,h1.2⟩
def Cq(d s:Nat)(m n:List (Int×Int)) :
  Tri ag 65 #[.map (some d),.map (some s)] [gmap kvI encN d m,gmap kvI encN s n] (fun _ L'=>∃m',(∀k,glk m' k=(glk n k).or (glk m k))∧L' = [gmap kvI encN d m']):=by
 refine Tri.bd ?_;refine G.ent Ent.swap ?_;refine G.e8 (oG (b:=s) (kv:=kvI) (enc:=encN) (m:=n)) ?_;intro hn;refine Hz ?_;intros;refine GO.ef (Ef.l9 rfl) ah ?_;rintro _ _⟨r,rfl,rfl⟩;refine Hz ?_;intros;refine G.loop (α:=List (Int×Int)) (fun z=>z.length≤n.length) (fun z=>[(0,.map (some d)),(7,av r)]) (fun z=>[jJ kvI encN s n r z,gmap kvI encN d (kF m z)]) (fun z=>n.length - z.length) [] (aj _) ai (Ent.refl _) ?_;intro z hz;refine Hz ?_;intros;refine GO.ef (Ef.m6 rfl) ah ?_;rintro _ _ (⟨rfl,rfl,hp⟩|⟨p,rfl,rfl,a1,a0,hl⟩)
 ·refine Hz ?_;intros;refine KX.e9 an Ent.drop ⟨kF m z,fun k=>?_,rfl⟩;rw[qG k z m ((hp.map _).nodup_iff.2 hn),wQ hp hn]
 refine Hz ?_;intros;refine GO.ev (Ev.r8 (done:=z) rfl rfl) ah ?_;refine Hz ?_;intros;refine GO.efu (Ef.e8 (enc:=encN) (e:=p.2) rfl rfl rfl rfl) ?_;rintro _ _ rfl;refine Hz ?_;intros;refine⟨z++[p],by simp;omega,by simp;omega,ai,?_⟩;rw[show kF m (z++[p])=gins (kF m z) p.1 p.2 by simp[kF]];exact ae
def sS(d s:Nat)(m:List (Int×Stk)) :
  Tri ag 66 #[.map (some d),.map (some s)] [gmap kvI Stk.v d m,gmap kvI Stk.v s []] (fun _ L'=>L' = [gmap kvI Stk.v d m]):=by
 refine Tri.bd ?_;refine G.ent Ent.swap ?_;refine Hz ?_;intros;refine GO.ef (Ef.l9 rfl) ah ?_;rintro _ _⟨r,rfl,rfl⟩;refine Hz ?_;intros;refine G.e9 1 (GR.step ?_);refine Hz ?_;intros;refine GO.ef (Ef.m6 rfl) ah ?_;rintro _ _ (⟨rfl,rfl,hp⟩|⟨p,rfl,rfl,a0,a1,hl⟩)
 ·refine Hz ?_;intros;exact KX.e9 an Ent.drop rfl
 ·exact absurd a0 (by simp)
end
section
open Go.V
attribute [local irreducible] G GO GP GPW GPK Ev Ef EfR Ent CB GB Enters
noncomputable def lW(S:LedM)(s:StM):LedM:={ S with stk:=(tryM S s).2.stk,tot:=(tryM S s).2.tot,steps:=S.steps++[s.at (aR S)],flows:=S.flows++(tryM S s).2.flows }
open Classical in
noncomputable def kP(S:LedM)(s:StM):LedM:=if(tryM S s).1=0 then lW S s else S
noncomputable def AU(S:LedM)(s:StM):Int:=if(tryM S s).1=0 then aR S else 0
def Gc{o p:Option Int}{d:Int}:(o.or p).getD d=o.getD (p.getD d):=by cases o<;>rfl
def sB{sh:Int}{nf:Nat}{mix:Int→Bool}{s:StM}(hT:∀mx,TakeC mx)(a0:0≤sh):∀(ms:List MvM) (W:Wk),W.Ok nf→(∀m∈ms,1≤m.n∧m.n≤1099511627776)→(iC sh nf mix s W ms).1=0→(iC sh nf mix s W ms).2.Ok nf∧(iC sh nf mix s W ms).2.flows.length=W.flows.length+ms.length
 | [],W,hO,_,_=>⟨hO,rfl⟩
 | m::ms,W,hO,hn,he=>by
  have e:iC sh nf mix s W (m::ms)=if(gN sh nf mix s W m).1=0 then iC sh nf mix s (gN sh nf mix s W m).2 ms else((gN sh nf mix s W m).1,W):=rfl;rw[e] at he ⊢;by_cases h:(gN sh nf mix s W m).1=0
  ·rw[if_pos h] at he ⊢;obtain⟨h1,h2⟩:=wD hO hT (hn m (au ..)) a0 h;obtain⟨h3,h4⟩:=sB hT a0 ms _ h1 (fun m hm=>hn m (aq _ hm)) he;refine⟨h3,?_⟩;rw[h4,h2,bu];omega
  ·rw[if_neg h] at he;exact absurd he h
def zR{S:LedM}{s:StM}(hS:S.Ok)(hT:∀mx,TakeC mx)(he:(tryM S s).1=0):S.steps.length<65536∧lX S.cat S.now s∧(tryM S s).2.Ok S.flows.length∧(tryM S s).2.flows.length=s.moves.length:=by
 unfold tryM at he ⊢;by_cases h1:65536≤S.steps.length
 ·rw[if_pos h1] at he;exact absurd (show(4:Int)=0 from he) ab
 rw[if_neg h1] at he ⊢;by_cases h2:lX S.cat S.now s
 case neg=>rw[if_pos h2] at he;exact absurd (show(1:Int)=0 from he) ab
 rw[if_neg (fun h=>h h2)] at he ⊢
 have h3:=sB hT hS.shard.1 s.moves (wk0 S) (CI hS) (fun m hm=>by
  have h4:=h2.2.2.2.1 m hm;unfold iH at h4;rw[fR] at h4;exact(of_decide_eq_true h4).2.1) he
 exact⟨ab,h2,h3.1,by rw[h3.2];simp[wk0]⟩
def EK{S:LedM}{s:StM}(hS:S.Ok)(hT:∀mx,TakeC mx):(kP S s).Ok:=by
 unfold kP;split
 ·rename_i he;obtain⟨h1,h2,h3,h4⟩:=zR hS hT he;have hl:=h2.2.2.1.2;have hf:=hS.flows;refine⟨hS.shard,?_,?_,h3.stk,?_⟩
  ·simp only[lW,aD,bu,cx];omega
  ·simp only[lW,aD,bu,cx];omega
  ·intro i;have:=h3.tot i
   simp only[lW,aD];rw[Int.natCast_add];exact this
 ·exact hS
abbrev Bs:List Stp:=[.ev 0,.ev 1,.ev 2,.ev 3,.ev 4,.ef 5]
abbrev Br:List Stp:=[.ev 0,.ev 1,.ev 2,.ev 3,.ev 4,.ev 5,.ef 6]
abbrev yp:List Stp:=[.ev 0,.ev 1,.ev 2,.ev 3,.ev 4,.ev 5,.ev 6,.ev 7,.ef 8]
abbrev yo:List Stp:=[.ev 0,.ev 1,.ev 2,.ev 3,.ev 4,.ev 5,.ev 6,.ev 7,.ef 8]
abbrev ym:List Stp:=[.ev 0,.ev 1,.ev 2,.ev 3,.ev 4,.ev 5,.ev 6,.ev 7,.ef 8]
abbrev yl:List Stp:=[.ev 0,.ev 1,.ev 2,.ev 3,.ev 4,.ev 5,.ev 6,.ev 7,.ev 8,.ef 9,.ev 10,.ev 11,.ef 12]
abbrev yk:List Stp:=[.ev 0,.ev 1,.ev 2,.ev 3,.ev 4,.ev 5,.ev 6,.ev 7,.ev 8,.ef 9,.ef 10,.ev 11,.ev 12,.ef 13]
def Ke{φ ψ:Prop}(k:ψ)(h:Hid ψ→φ:=by intro k;(repeat (first|refine aa ?_|intro zzz|((with_reducible apply G.d8);first|refine G.d7 (N:=100) (id:=8) Bs mixed aw ?_|refine G.d7 (N:=100) (id:=9) Br mixed aw ?_|refine G.d7 (N:=100) (id:=10) yp mixed aw ?_|refine G.d7 (N:=100) (id:=11) yo mixed aw ?_|refine G.d7 (N:=100) (id:=12) ym mixed aw ?_|refine G.d7 (N:=100) (id:=13) yl mixed aw ?_|refine G.d7 (N:=100) (id:=14) yk mixed aw ?_)));(repeat revert zzz);exact Hid.out k):φ:=h ⟨k⟩
def uc{L:LH}(b:Nat)(S:LedM)(hS:S.Ok)(hc:S.cat.Ok)(s:StV)(hs:StIn s)(hT:∀mx,TakeC mx) :
  Tri ag 24 #[av b,.agg (aL s).toArray] (LedR b S::stM s::stP s::L) (fun v L'=>v=.tuple #[ac (AU S s.m),ac (tryM S s.m).1]∧L' = LedR b (kP S s.m)::stM s::stP s::L):=by
 obtain⟨b0,b1⟩:=hS.shard;have b8:=hS.steps;have b4:=hS.flows;refine Tri.bd ?_;refine G.f7 (f:=ledA b S) ?_;intro x;simp only[ledA,ledL,ax,ap];refine G.g8 ?_;intro hF;have c0:x.steps.length=S.steps.length:=by rw[←hF.steps];simp
 have b3:x.flows.length=S.flows.length:=by rw[←hF.flows];simp
 refine Ke ?_;intros;refine GO.ent Ent.drop ?_;refine GO.ca (EB b S hS hc x hF s hs hT) ?_;rintro _ _ (⟨he,rfl,rfl⟩|⟨he,bc,s',z,rfl,⟨a8,hW⟩,rfl⟩)
 ·have e1:kP S s.m=S:=if_neg he;have e2:AU S s.m=0:=if_neg he;rw[e1,e2];refine Ke ?_;intros;exact KX.d7 an (mE x hF) ⟨rfl,rfl⟩
 have e1:kP S s.m=lW S s.m:=if_pos he;have e2:AU S s.m=aR S:=if_pos he;obtain⟨o1,o2,o3,o4⟩:=zR hS hT he;have b5:s.m.moves.length≤64:=o2.2.2.1.2
 have b9:z.flows.length≤64:=by
  have:=congrArg List.length hW.flows
  rw[aA] at this;omega
 have b2:0<z.flows.length:=by
  have h1:=congrArg List.length hW.flows;rw[aA] at h1;have h2:=o2.2.2.1.1;omega
 have a5:s'.id=aR S:=congrArg StM.id a8;rw[e1,e2,he];simp only[chL,ledL,fE,fw];refine Ke ?_;intros;refine GO.d9 (oG (b:=z.cs) (kv:=kvP) (enc:=Stk.v) (m:=z.stk)) ?_;intro a7;refine GO.ef (Ef.l9 rfl) ah ?_;rintro _ _⟨r,rfl,rfl⟩;refine Ke ?_;intros
 refine G.loop (α:=List ((Int×Int)×Stk)) (fun g=>g.length≤z.stk.length) (fun _=>[(0,av b),(6,av bc),(23,av r)])
  (fun g=>jJ kvP Stk.v z.cs z.stk r g::gmap kvP Stk.v x.ms (iB x.stk g)::obj bc tCh (fE b s' z)::gmap kvI encN z.ct z.tot::gmap kvI Stk.v z.ci []::gmap kvI Stk.v z.cr []::osl aM 11 bY z.fad z.fcap z.flows::allP (fun p:(Int×Int)×Stk=>stkP p.2) z.stk::allP flP z.flows::obj b tLed (fw S.shard x)::gmap kvI encN x.mt x.tot::asl aL 7 bB x.sad x.scap x.steps::asl aM 11 bY x.fad x.fcap x.flows::gmap kvI Stk.v x.mi x.imp::gmap kvI Stk.v x.mr x.ret::catP x.cat::allP (fun p:(Int×Int)×Stk=>stkP p.2) x.stk::allP bK x.steps::allP flP x.flows::allP (fun p:Int×Stk=>stkP p.2) x.imp::allP (fun p:Int×Stk=>stkP p.2) x.ret::stM s'::stP s'::stM s::stP s::L)
  (fun g=>z.stk.length - g.length) [] (aj _) ai ?_ ?_
 ·simp only[iB,List.foldl_nil];exact ae
 intro g hg;simp only[fE,fw];refine Ke ?_;intros;refine GO.ef (Ef.m6 rfl) ah ?_;rintro _ _ (⟨rfl,rfl,hp⟩|⟨p,rfl,rfl,b7,b6,hl⟩)
 case inr =>
  have a6:iB x.stk (g++[p])=putS (iB x.stk g) p:=by simp[iB]
  refine Ke ?_;intros;refine GO.ev (Ev.r8 (done:=g) rfl rfl) ah ?_;simp only[kvP,Stk.v,bO,gw];by_cases h0:p.2.lots.length=0
  ·have a2:putS (iB x.stk g) p=gera (iB x.stk g) p.1:=if_pos h0;refine Ke ?_;intros;refine GPW.efu (Ef.o0 rfl rfl) ?_;rintro _ _ rfl;refine Ke ?_;intros;refine⟨g++[p],by simp;omega,by simp;omega,ai,?_⟩;rw[a6,a2];exact ae
  ·have a2:putS (iB x.stk g) p=gins (iB x.stk g) p.1 p.2:=if_neg h0;refine Ke ?_;intros;refine GPW.efu (Ef.e8 (enc:=Stk.v) (e:=p.2) rfl rfl rfl rfl) ?_;rintro _ _ rfl;refine Ke ?_;intros;refine⟨g++[p],by simp;omega,by simp;omega,ai,?_⟩;rw[a6,a2];exact ae
 refine Ke ?_;intros;(first|refine GPW.ef (Ef.call (Cq x.mt z.ct x.tot z.tot) rfl (by repeat (first|exact Ent.refl _|apply Ent.take))) ah ?_);rintro _ _⟨_,⟨m',a9,rfl⟩,hL⟩;simp only[ax,ap] at hL;subst hL;refine Ke ?_;intros;(first|refine GPW.ef (Ef.call (sS x.mi z.ci x.imp) rfl (by repeat (first|exact Ent.refl _|apply Ent.take))) ah ?_);rintro _ _⟨_,rfl,hL⟩;simp only[ax,ap] at hL;subst hL;refine Ke ?_;intros;(first|refine GPW.ef (Ef.call (sS x.mr z.cr x.ret) rfl (by repeat (first|exact Ent.refl _|apply Ent.take))) ah ?_);rintro _ _⟨_,rfl,hL⟩;simp only[ax,ap] at hL;subst hL;refine Ke ?_;intros;refine GPW.ef (Ef.m8 (enc:=aM) (ys:=z.flows) rfl rfl rfl rfl rfl b2 (fun e _=>jf e) ab ab) ah ?_;rintro _ _⟨a4,a0,rfl,rfl⟩;refine Ke ?_;intros;refine GPW.ef (Ef.m5 (enc:=aL) (e:=s') rfl rfl rfl rfl rfl (by rfl) (jm _) ab ab) ah ?_;rintro _ _⟨a3,a1,rfl,rfl⟩;refine Ke ?_;intros;rw[a5];refine KX.d7 an ?_ ⟨rfl,rfl⟩;refine Ent.trans ?_ (mE (S:=lW S s.m) { x with stk:=iB x.stk g,tot:=m',steps:=x.steps++[s'],sad:=a3,scap:=a1,flows:=x.flows++z.flows,fad:=a4,fcap:=a0 } ⟨hF.cat,hF.catB,?_,?_,?_,?_,?_,hF.imp,hF.ret⟩)
 ·simp only[ledL,fw,lW];refine(Ent.at (A:=stP s') (Ent.refl _)).trans ?_;refine(Ent.at (A:=stM s') (Ent.refl _)).trans ?_;refine(Ent.e8 (nZ s') (cB iI)).trans ?_;refine(Ent.at (A:=allP bK x.steps) (Ent.refl _)).trans ?_;refine((Ent.d7 (Ent.g9 (f:=bK) (x:=s') ky)).trans (Ent.j0 ky)).trans ?_;refine(Ent.at (A:=allP flP z.flows) (Ent.refl _)).trans ?_;refine(Ent.at (A:=allP flP x.flows) (Ent.refl _)).trans ?_;refine(Ent.j0 lw).trans ?_;refine(Ent.at (A:=allP (fun p:(Int×Int)×Stk=>stkP p.2) z.stk) (Ent.refl _)).trans ?_;refine(Ent.at (A:=allP (fun p:(Int×Int)×Stk=>stkP p.2) x.stk) (Ent.refl _)).trans ?_;refine(Ent.j0 (f:=fun p:(Int×Int)×Stk=>stkP p.2) (fun p=>vK p.2)).trans ?_;refine(Ent.l5 (l':=iB x.stk g) (fun q hq=>?_)).trans ?_
  ·rcases ou hq with h1|h1
   ·exact cA _ h1
   ·exact cW _ (hp.mem_iff.1 h1.1)
  exact ae
 ·intro a i;rw[oZ _ _ _ ((hp.map _).nodup_iff.2 a7),wQ hp a7];exact hW.stk a i
 ·intro q hq;rcases ou hq with h1|h1
  ·exact hF.full q h1
  ·exact h1.2
 ·intro i;dsimp only;rw[a9,Gc];exact hW.tot i
 ·show(x.steps++[s']).map StV.m=S.steps++[s.m.at (aR S)];rw[aZ,hF.steps,←a8];rfl
 ·show(x.flows++z.flows).map (·.m)=S.flows++(tryM S s.m).2.flows;rw[aZ,hF.flows];exact congrArg _ hW.flows
end
section
open Go.V
attribute [local irreducible] G GO GP GPW GPK Ev Ef EfR Ent CB GB Enters
def CatV.d7{c c' : CatV}(h:c'.m=c.m)(hB:c.B):c'.B:=by
 obtain⟨b1,b2,b3,b4,b5,b6,b7⟩:=hB;have h1:c'.items=c.items:=congrArg CatM.items h;have h2:c'.rules.map RuV.m=c.rules.map RuV.m:=congrArg CatM.rules h;have h3:c'.tables.map TbV.m=c.tables.map TbV.m:=congrArg CatM.tables h;have h4:c'.taxes.map TxV.m=c.taxes.map TxV.m:=congrArg CatM.taxes h;have l2:c'.rules.length=c.rules.length:=by simpa using congrArg List.length h2
 have l3:c'.tables.length=c.tables.length:=by simpa using congrArg List.length h3
 have l4:c'.taxes.length=c.taxes.length:=by simpa using congrArg List.length h4
 refine⟨by rw[h1];exact b1,ab,ab,ab,?_,?_,?_⟩
 ·intro r hr;have hm:r.m∈c.rules.map RuV.m:=by rw[←h2];exact alStd0List_mem_map_of_mem hr
  obtain⟨q,hq,a0⟩:=List.mem_map.1 hm;obtain⟨q1,q2,q3⟩:=b5 q hq;have t1:q.take.l=r.take.l:=congrArg RuM.take a0;have t2:q.give.l=r.give.l:=congrArg RuM.give a0;have t3:q.back.l=r.back.l:=congrArg RuM.back a0;exact⟨by rw[←t1];exact q1,by rw[←t2];exact q2,by rw[←t3];exact q3⟩
 ·intro r hr;have hm:r.m∈c.tables.map TbV.m:=by rw[←h3];exact alStd0List_mem_map_of_mem hr
  obtain⟨q,hq,a0⟩:=List.mem_map.1 hm;obtain⟨q1,q2⟩:=b6 q hq;have t1:q.rows.map RwV.m=r.rows.map RwV.m:=congrArg TbM.rows a0;have t2:q.rows.length=r.rows.length:=by simpa using congrArg List.length t1
  refine⟨by rw[←t2];exact q1,?_⟩;intro w hw;have a1:w.m∈q.rows.map RwV.m:=by rw[t1];exact alStd0List_mem_map_of_mem hw
  obtain⟨y,hy,a2⟩:=List.mem_map.1 a1;have t4:y.give.l=w.give.l:=congrArg RwM.give a2;have:=q2 y hy
  unfold RwV.B at this ⊢;rw[←t4];exact this
 ·intro r hr;have hm:r.m∈c.taxes.map TxV.m:=by rw[←h4];exact alStd0List_mem_map_of_mem hr
  obtain⟨q,hq,a0⟩:=List.mem_map.1 hm;have q1:=b7 q hq;have t1:q.brs=r.brs:=congrArg TxM.brs a0;unfold TxV.B at q1 ⊢;rw[←t1];exact q1
end
section
def EV{u v y1 y0 B:Nat}(hv:v<B)(hy:0<y1)(h0:0<B):(u*B+v) / (y1*B+y0)≤u / y1:=by
 rw[Nat.le_div_iff_mul_le hy];have hd:(u*B+v) / (y1*B+y0)*(y1*B+y0)≤u*B+v:=Nat.div_mul_le_self _ _;generalize (u*B+v) / (y1*B+y0)=q at *;have h1:q*y1*B≤q*(y1*B+y0):=by rw[Nat.mul_add,Nat.mul_assoc];exact Nat.le_add_right _ _
 have h2:q*y1*B<(u+1)*B:=by rw[Nat.add_mul];omega
 have h3:=Nat.lt_of_mul_lt_mul_right h2;omega
def Ae{u v y1 y0 B q r:Nat}(hr:u=q*y1+r)(h:q*y0≤B*r+v):q*(y1*B+y0)≤u*B+v:=by
 subst hr;rw[Nat.mul_add,Nat.add_mul,←Nat.mul_assoc,Nat.mul_comm r B];omega
def Gi{u v y1 y0 B q r:Nat}(hr:u=q*y1+r)(h:B*r+v<q*y0)(hy:0<y1*B+y0):(u*B+v) / (y1*B+y0)<q:=by
 rw[Nat.div_lt_iff_lt_mul hy];subst hr;rw[Nat.mul_add,Nat.add_mul,←Nat.mul_assoc,Nat.mul_comm r B];omega
def rj{u v y B:Nat}(hu:u<y)(hv:v<B)(hy:0<y):(u*B+v) / y<B:=by
 rw[Nat.div_lt_iff_lt_mul hy];have h1:(u+1)*B≤y*B:=Nat.mul_le_mul_right _ hu;rw[Nat.add_mul] at h1;rw[Nat.mul_comm B y];omega
def EW{u v y1 y0 B q r:Nat}(hr:u=q*y1+r)(hB:B≤r)(hq:q≤B)(hy:y0<B):q*(y1*B+y0)≤u*B+v:=by
 refine Ae hr ?_;have h1:q*y0≤B*y0:=Nat.mul_le_mul_right _ hq;have h2:B*y0≤B*r:=Nat.mul_le_mul_left _ (by omega);omega
def Fy{n y q:Nat}(hy:0<y)(h1:n / y≤q)(h2:q*y≤n):q=n / y:=by
 have h3:q≤n / y:=(Nat.le_div_iff_mul_le hy).2 h2;omega
end
section
open Go.V
def lV(l:LL):∀i,i≤l.length→(List.range i).foldl (fun s k=>s+l[k]!.2.2) 0=lsum (l.take i):=by
 intro i;induction i with
 | zero=>intro _;simp[lsum]
 | succ i ih =>
  intro hi;rw[ew,cJ,ih ab,dX l ab];rfl
def gS(l:LL):lsum (l.take l.length)=lsum l:=by rw[aF (aB _)]
def qp{f g:Nat→Int}:∀(n:Nat),(∀k,k<n→f k=g k)→(List.range n).foldl (fun s k=>s+f k) 0=(List.range n).foldl (fun s k=>s+g k) (0:Int):=by
 intro n;induction n with
 | zero=>intro _;rfl
 | succ n ih =>
  intro h;rw[ew,cJ,cJ,ih (fun k hk=>h k ab)];simp[h n ab]
def jI{l:LL}(h:∀x∈l,LotOk x){k:Nat}(hk:k<l.length):0<lsum l:=by
 have h1:=gD h k ab;have h2:=dX l hk;have h3:=h _ (aG hk);unfold LotOk at h3
 have h4:∀j,k+1≤j→j≤l.length→lsum (l.take (k+1))≤lsum (l.take j):=by
  intro j;induction j with
  | zero=>intro h;omega
  | succ j ih =>
   intro hj a0;rcases ce k j with h5|h5
   ·have h6:=ih ab ab;have h7:=dX l (show j<l.length by omega);have h8:=h _ (aG (show j<l.length by omega));unfold LotOk at h8;omega
   ·obtain rfl:j=k:=ab;exact bj _
 have h5:=h4 l.length ab (aB _);rw[gS] at h5;omega
def CU{l:LL}{n:Int}(hl:∀x∈l,LotOk x)(h0:0≤n)(h1:n≤lsum l)(k:Nat)(hk:k<l.length):0≤shC l n k∧shC l n k≤l[k]!.2.2:=by
 have hs:=jI hl hk;have hw:=hl _ (aG hk);unfold LotOk at hw;have a3:0≤shQ l n k:=jd (dy h0 ab) ab;unfold shC;rcases Int.lt_or_le n (lsum l) with a2|a5
 ·have a4:shQ l n k<l[k]!.2.2:=by
   unfold shQ;refine Int.ediv_lt_of_lt_mul hs ?_;rw[Int.mul_comm];exact Int.mul_lt_mul_of_pos_left a2 ab
  constructor
  ·split<;>omega
  ·split<;>omega
 ·have hn:n=lsum l:=ab
  have a1:∀j,shQ l n j=l[j]!.2.2:=by
   intro j;unfold shQ;rw[hn];exact Int.mul_ediv_cancel_left _ ab
  have a0:fx l n=0:=by
   unfold fx;rw[qp (g:=fun j=>l[j]!.2.2) l.length (fun j _=>a1 j),lV l l.length (aB _),gS];omega
  rw[a0,a1 k];constructor
  ·split<;>omega
  ·rw[if_neg ab];omega
def nA(mixed:Bool)(l:LL)(n:Int)(hl:∀x∈l,LotOk x)(h0:0≤n)(h1:n≤lsum l)(k:Nat)(hk:k<l.length):0≤tkC mixed l n k∧tkC mixed l n k≤l[k]!.2.2:=by
 unfold tkC;split
 ·exact CU hl h0 h1 k hk
 ·exact nQ h0 (fun x h=>(hl x h).w) k hk
def rkLt(R:Nat→Int)(i j:Nat):Prop:=R j<R i∨(R i=R j∧i<j)
def eo(R:Nat→Int)(n k:Nat):Nat:=((List.range n).filter (fun j=>decide (R k<R j∨(R j=R k∧j<k)))).length
def oe(l:LL)(n:Int)(k:Nat):Fw l n k=eo (shR l n) l.length k:=rfl
def jv{R:Nat→Int}{n:Nat}{o:List Nat}(hp:o.Perm (List.range n))(hs:o.Pairwise (rkLt R)){p:Nat}(h:p<o.length):eo R n o[p]=p:=by
 unfold eo;rw[←(hp.filter _).length_eq];have a0:=List.pairwise_iff_getElem.1 hs
 have e:o=o.take p++o[p]::o.drop (p+1):=by
  conv=>lhs;rw[←ft p o,eJ h]
 have h1:(o.take p).filter (fun j=>decide (R o[p]<R j∨(R j=R o[p]∧j<o[p])))=o.take p:=by
  rw[List.filter_eq_self];intro x hx;obtain⟨i,hi,rfl⟩:=List.mem_iff_getElem.1 hx;rw[bh] at hi;rw[dY];have:=a0 i p ab h ab
  simpa [rkLt] using this
 have h2:(o.drop (p+1)).filter (fun j=>decide (R o[p]<R j∨(R j=R o[p]∧j<o[p])))=[]:=by
  rw[List.filter_eq_nil_iff];intro x hx;obtain⟨i,hi,rfl⟩:=List.mem_iff_getElem.1 hx;rw[cH] at hi;rw[eK];have:=a0 p (p+1+i) h ab ab
  unfold rkLt at this;simp only[decide_eq_true_eq];omega
 have h3:(o.filter (fun j=>decide (R o[p]<R j∨(R j=R o[p]∧j<o[p])))).length=((o.take p++o[p]::o.drop (p+1)).filter (fun j=>decide (R o[p]<R j∨(R j=R o[p]∧j<o[p])))).length:=by rw[←e]
 rw[h3,dK,h1,cn (by simp),h2];simp;omega
def pu(R:Nat→Int)(n:Nat):∃o:List Nat,o.Perm (List.range n)∧o.Pairwise (rkLt R):=by
 refine⟨(List.range n).mergeSort (fun i j=>decide (R j<R i∨(R i=R j∧i≤j))),List.mergeSort_perm _ _,?_⟩;have hp:=List.mergeSort_perm (List.range n) (fun i j=>decide (R j<R i∨(R i=R j∧i≤j)));have a1:=hp.nodup_iff.2 List.nodup_range;have hs:=List.pairwise_mergeSort (le:=fun i j=>decide (R j<R i∨(R i=R j∧i≤j))) (by intro a b c h1 h2;simp only[decide_eq_true_eq] at *;omega) (by intro a b;simp only[Bool.or_eq_true,decide_eq_true_eq];omega) (List.range n);rw[List.pairwise_iff_getElem] at hs ⊢;intro i j hi hj a0;have h1:=hs i j hi hj a0;have h2:=(List.pairwise_iff_getElem.1 a1) i j hi hj a0;simp only[decide_eq_true_eq] at h1;unfold rkLt;omega
def vW{R:Nat→Int}{n:Nat}{o:List Nat}(hp:o.Perm (List.range n))(hs:o.Pairwise (fun a b=>¬(R a<R b∨(R a=R b∧b<a)))):o.Pairwise (rkLt R):=by
 have a1:=hp.nodup_iff.2 List.nodup_range;rw[List.pairwise_iff_getElem] at hs ⊢;intro i j hi hj a0;have h1:=hs i j hi hj a0;have h2:=(List.pairwise_iff_getElem.1 a1) i j hi hj a0;unfold rkLt;omega
def iw{R:Nat→Int}{n:Nat}{o:List Nat}(hp:o.Perm (List.range n))(hs:o.Pairwise (rkLt R)){k m:Nat}(hk:k<n):k∈o.take m↔eo R n k<m:=by
 have hm:k∈o:=hp.mem_iff.2 (List.mem_range.2 hk);have a1:=hp.nodup_iff.2 List.nodup_range;obtain⟨p,a0,rfl⟩:=List.mem_iff_getElem.1 hm;rw[jv hp hs a0];constructor
 ·intro h;obtain⟨i,hi,he⟩:=List.mem_iff_getElem.1 h;rw[bh] at hi;rw[dY] at he;have:=(eX a1).1 he
  omega
 ·intro h;refine List.mem_iff_getElem.2 ⟨p,by rw[bh];omega,?_⟩;rw[dY]
def Hj{R:Nat→Int}{n m:Nat}(hm:m<n):∃k,k<n∧eo R n k=m∧∀j,j<n→j≠k→m≤eo R n j→rkLt R k j:=by
 obtain⟨o,hp,hs⟩:=pu R n;have hl:o.length=n:=by have:=hp.length_eq;simpa using this
 have a0:m<o.length:=ab;refine⟨o[m],List.mem_range.1 (hp.mem_iff.1 (eV a0)),jv hp hs a0,?_⟩;intro j hj a2 a3;have a4:j∈o:=hp.mem_iff.2 (List.mem_range.2 hj);obtain⟨p,a1,rfl⟩:=List.mem_iff_getElem.1 a4;rw[jv hp hs a1] at a3;have a5:p≠m:=by rintro rfl;exact a2 rfl
 exact(List.pairwise_iff_getElem.1 hs) m p a0 a1 ab
def so{R:Nat→Int}{n i j:Nat}(hi:i<n)(hj:j<n)(h:eo R n i=eo R n j):i=j:=by
 obtain⟨o,hp,hs⟩:=pu R n;have a1:i∈o:=hp.mem_iff.2 (List.mem_range.2 hi);have a2:j∈o:=hp.mem_iff.2 (List.mem_range.2 hj);obtain⟨p,a3,rfl⟩:=List.mem_iff_getElem.1 a1;obtain⟨q,a0,rfl⟩:=List.mem_iff_getElem.1 a2;rw[jv hp hs a3,jv hp hs a0] at h;subst h;rfl
def cS(n:Nat)(f:Nat→Int):Int:=(List.range n).foldl (fun s k=>s+f k) 0
def jM(f:Nat→Int):cS 0 f=0:=rfl
def dW(n:Nat)(f:Nat→Int):cS (n+1) f=cS n f+f n:=by
 unfold cS;rw[ew,cJ];rfl
def qt{n:Nat}{f g:Nat→Int}(h:∀k,k<n→f k=g k):cS n f=cS n g:=by
 induction n with
 | zero=>rfl
 | succ n ih=>rw[dW,dW,ih (fun k hk=>h k ab),h n ab]
def tX(n:Nat)(f g:Nat→Int):cS n (fun k=>f k+g k)=cS n f+cS n g:=by
 induction n with
 | zero=>rfl
 | succ n ih=>rw[dW,dW,dW,ih];omega
def CO(n:Nat)(f g:Nat→Int):cS n (fun k=>f k - g k)=cS n f - cS n g:=by
 induction n with
 | zero=>rfl
 | succ n ih=>rw[dW,dW,dW,ih];omega
def tW(n:Nat)(c:Int)(f:Nat→Int):cS n (fun k=>c*f k)=c*cS n f:=by
 induction n with
 | zero=>simp[jM]
 | succ n ih=>rw[dW,dW,ih,Int.mul_add]
def kZ{n:Nat}{f g:Nat→Int}(h:∀k,k<n→f k≤g k):cS n f≤cS n g:=by
 induction n with
 | zero=>exact bj _
 | succ n ih=>rw[dW,dW];have:=ih (fun k hk=>h k ab);have:=h n ab;omega
def nj(n:Nat)(c:Int):cS n (fun _=>c)=n*c:=by
 induction n with
 | zero=>simp[jM]
 | succ n ih=>rw[dW,ih,Int.natCast_succ,Int.add_mul,Int.one_mul]
def tI{f:Nat→Int}{l l' : List Nat}(h:l.Perm l'):∀s:Int,l.foldl (fun s k=>s+f k) s=l'.foldl (fun s k=>s+f k) s:=by
 induction h with
 | nil=>intro s;rfl
 | cons x _ ih=>intro s;exact ih _
 | swap x y l=>intro s;simp only[gx];rw[show s+f y+f x=s+f x+f y by omega]
 | trans _ _ ih1 ih2=>intro s;rw[ih1,ih2]
def EG(R:Nat→Int){n m:Nat}(hm:m≤n):cS n (fun k=>if eo R n k<m then 1 else 0)=m:=by
 obtain⟨o,hp,hs⟩:=pu R n;have hl:o.length=n:=by have:=hp.length_eq;simpa using this
 unfold cS;rw[←tI hp]
 have h:∀q,q≤n→(o.take q).foldl (fun (s:Int) k=>s+if eo R n k<m then 1 else 0) 0=min q m:=by
  intro q;induction q with
  | zero=>intro _;simp
  | succ q ih =>
   intro hq;rw[aC ab,cJ,ih ab];simp only[gx,List.foldl_nil];rw[jv hp hs ab];split<;>omega
 have h2:=h n (aB _);rw[aF ab] at h2;rw[h2];omega
def sC(l:LL):lsum l=cS l.length (fun k=>l[k]!.2.2):=by
 unfold cS;rw[lV l l.length (aB _),gS]
def kz(l:LL)(n:Int):fx l n=n - cS l.length (shQ l n):=rfl
def lB{l:LL}{n:Int}(hl:∀x∈l,LotOk x)(h0:l≠[]):0≤fx l n∧fx l n<l.length:=by
 have a0:0<l.length:=List.length_pos_iff.2 h0;have hs:=jI hl a0
 have h1:cS l.length (fun k=>lsum l*shQ l n k+shR l n k)=cS l.length (fun k=>n*l[k]!.2.2) :=
  qt (fun k _=>by unfold shQ shR;exact Int.mul_ediv_add_emod _ _)
 rw[tX,tW,tW,←sC] at h1
 have h2:cS l.length (shR l n)≤cS l.length (fun _=>lsum l - 1):=kZ (fun k _=>by
  have:=dL (n*l[k]!.2.2) hs
  unfold shR;omega)
 have h3:cS l.length (fun _=>(0:Int))≤cS l.length (shR l n):=kZ (fun k _=>dD _ ab);rw[nj] at h2 h3
 have h4:lsum l*fx l n=cS l.length (shR l n):=by
  rw[kz,Int.mul_sub];rw[Int.mul_comm (lsum l) n];omega
 have h5:0≤lsum l*fx l n:=by rw[h4];omega
 have h6:lsum l*fx l n<lsum l*l.length:=by
  rw[h4]
  have:(l.length:Int)*(lsum l - 1)<lsum l*l.length:=by
   rw[Int.mul_sub,Int.mul_one,Int.mul_comm];omega
  omega
 exact⟨Int.nonneg_of_mul_nonneg_right h5 hs,Int.lt_of_mul_lt_mul_left h6 ab⟩
def FV{l:LL}{n:Int}(hl:∀x∈l,LotOk x)(h0:l≠[]):cS l.length (shC l n)=n:=by
 obtain⟨h1,h2⟩:=lB (n:=n) hl h0
 have e:cS l.length (shC l n)=cS l.length (fun k=>shQ l n k+(if eo (shR l n) l.length k<(fx l n).toNat then 1 else 0)):=qt (fun k _=>by
  unfold shC;rw[oe];congr 1;by_cases hb:eo (shR l n) l.length k<(fx l n).toNat
  ·rw[if_pos hb,if_pos ab]
  ·rw[if_neg hb,if_neg ab])
 rw[e,tX,EG _ ab,kz] at *;omega
def Go(l:LL)(m:Int):∀k,fuR l m k=m - cS k (fuC l m):=by
 intro k;induction k with
 | zero=>simp[fuR,jM]
 | succ k ih =>
  rw[dW];show fuR l m k - min (fuR l m k) l[k]!.2.2=_;unfold fuC at *;omega
def Gp{l:LL}{m:Int}(hl:∀x∈l,LotOk x)(h0:0≤m)(h1:m≤lsum l):cS l.length (fuC l m)=m:=by
 have h2:∀k,k≤l.length→fuR l m k=max 0 (m - lsum (l.take k)):=by
  intro k;induction k with
  | zero=>intro _;simp[fuR,lsum];omega
  | succ k ih =>
   intro hk;have h3:=hl _ (aG (show k<l.length by omega));have h4:=gD hl k ab;unfold LotOk at h3;simp only[fuR];rw[ih ab,dX l ab];omega
 have h3:=h2 l.length (aB _);rw[gS,Go] at h3;omega
def FL{mixed:Bool}{l:LL}{n:Int}(hl:∀x∈l,LotOk x)(h0:0≤n)(h1:n≤lsum l):cS l.length (tkC mixed l n)=n:=by
 unfold tkC;split
 ·rename_i h;refine FV hl ?_;rintro rfl;simp[lsum] at h1;omega
 ·exact Gp hl h0 h1
def gA(a b:LL):lsum (a++b)=lsum a+lsum b:=by
 have h:∀(l:LL) (s:Int),l.foldl (fun s x=>s+x.2.2) s=s+l.foldl (fun s x=>s+x.2.2) 0:=by
  intro l;induction l with
  | nil=>intro s;simp
  | cons x l ih=>intro s;simp only[gx];rw[ih,ih (0+x.2.2)];omega
 unfold lsum;rw[cJ,h]
def gZ(x:Lot):lsum [x]=x.2.2:=by simp[lsum]
def oA(l:LL)(x:Lot):lsum (ba l x)=lsum l+x.2.2:=by
 unfold ba;split
 ·omega
 ·split
  ·rename_i h;obtain⟨h1,_⟩:=h
   have e:l=l.take (l.length - 1)++[l[l.length - 1]!]:=by
    conv=>lhs;rw[←ft (l.length - 1) l,eJ ab,bg ab]
    rw[getElem!_of ab]
   have e2:l.set (l.length - 1) (l[l.length - 1]!.1,l[l.length - 1]!.2.1,l[l.length - 1]!.2.2+x.2.2)=l.take (l.length - 1)++[(l[l.length - 1]!.1,l[l.length - 1]!.2.1,l[l.length - 1]!.2.2+x.2.2)]:=by
    rw[List.set_eq_take_append_cons_drop,if_pos ab,bg ab]
   have e3:lsum l=lsum (l.take (l.length - 1))+l[l.length - 1]!.2.2:=by
    conv=>lhs;rw[e]
    rw[gA,gZ]
   rw[e2,gA,gZ,e3];dsimp only;omega
  ·rw[gA,gZ]
def Fm(l:LL)(cs:Nat→Int)(m:Nat):lsum (divR l cs m)=cS m (fun k=>l[k]!.2.2 - cs k):=by
 induction m with
 | zero=>rfl
 | succ m ih=>rw[nb,oA,ih,dW];rfl
def Dy{mixed:Bool}{l:LL}{n:Int}(hl:∀x∈l,LotOk x)(h0:0≤n)(h1:n≤lsum l):lsum (eM mixed l n)=lsum l - n:=by
 unfold eM;rw[Fm,CO,FL hl h0 h1,←sC]
