/- Lemmas. -/
import Derived.Test.YtommnllbflbdmaaGreatDoorAao
set_option linter.all false
set_option maxHeartbeats 2000000
namespace Go.Proofs.YtommnllbflbdmaaGreatDoor
section
open Go.V
attribute [local irreducible] G GO GP GPW GPK Ev Ef EfR Ent CB GB Enters
section plain
variable {κ α:Type}[DecidableEq κ]
def sy(p:κ×α)(l:List (κ×α))(k:κ):glk (p::l) k=if k=p.1 then some p.2 else glk l k:=by
 obtain⟨q,a⟩:=p;unfold glk;rw[dw];by_cases h:k=q
 ·subst h;simp
 ·have hb:(k == q)=false:=by simpa using h
  simp only[hb,if_neg h]
def ke(m:List (κ×α))(k q:κ)(a:α):glk (gins m k a) q=if q=k then some a else glk m q:=iw
def Hg(m:List (κ×α))(k q:κ):glk (gera m k) q=if q=k then none else glk m q:=AY
def yc{l:List (κ×α)}{k:κ}(h:k∉l.map (·.1)):glk l k=none:=by
 induction l with
 | nil=>rfl
 | cons p l ih =>
  simp only[bM,bj,not_or] at h;rw[sy,if_neg h.1,ih h.2]
def oZ{l l' : List (κ×α)}(hp:l.Perm l')(hn:(l'.map (·.1)).Nodup)(k:κ):glk l k=glk l' k:=by
 have a0:(l.map (·.1)).Nodup:=(hp.map _).nodup_iff.2 hn;cases h:glk l k with
 | some a=>exact(iT hn (hp.mem_iff.1 (iS h))).symm
 | none =>
  cases h2:glk l' k with
  | none=>rfl
  | some a =>
   have h3:glk l k=some a:=iT a0 (hp.mem_iff.2 (iS h2));rw[h] at h3;cases h3
def iC(m n:List (κ×α)):List (κ×α):=n.foldl (fun m p=>gins m p.1 p.2) m
def nQ(k:κ):∀(n m:List (κ×α)),(n.map (·.1)).Nodup→glk (iC m n) k=(glk n k).or (glk m k)
 | [],m,_=>rfl
 | p::n,m,hn=>by
  simp only[bM,dN] at hn;have ih:=nQ k n (gins m p.1 p.2) hn.2;have e:iC m (p::n)=iC (gins m p.1 p.2) n:=rfl;rw[e,ih,sy,ke];by_cases h:k=p.1
  ·rw[if_pos h,if_pos h,yc (h▸hn.1)];rfl
  ·rw[if_neg h,if_neg h]
end plain
def putS(m:List ((Int×Int)×Stk))(p:(Int×Int)×Stk):List ((Int×Int)×Stk):=if p.2.lots.length=0 then gera m p.1 else gins m p.1 p.2
def fX(m n:List ((Int×Int)×Stk)):List ((Int×Int)×Stk):=n.foldl putS m
def td(m:List ((Int×Int)×Stk))(p:(Int×Int)×Stk)(k:Int×Int):(eA (putS m p) k).lots=if k=p.1 then p.2.lots else(eA m k).lots:=by
 unfold eA putS;by_cases h0:p.2.lots.length=0
 ·rw[if_pos h0,Hg];by_cases h:k=p.1
  ·rw[if_pos h,if_pos h,aX h0];rfl
  ·rw[if_neg h,if_neg h]
 ·rw[if_neg h0,ke];by_cases h:k=p.1
  ·rw[if_pos h,if_pos h];rfl
  ·rw[if_neg h,if_neg h]
def mS(k:Int×Int):∀(n m:List ((Int×Int)×Stk)),(n.map (·.1)).Nodup→(eA (fX m n) k).lots=((glk n k).getD (eA m k)).lots
 | [],m,_=>rfl
 | p::n,m,hn=>by
  simp only[bM,dN] at hn;have ih:=mS k n (putS m p) hn.2;have e:fX m (p::n)=fX (putS m p) n:=rfl;rw[e,ih,sy];by_cases h:k=p.1
  ·rw[if_pos h,yc (h▸hn.1)];have h2:=td m p k;rw[if_pos h] at h2;exact h2
  ·rw[if_neg h];cases glk n k with
   | some s=>rfl
   | none =>
    have h2:=td m p k;rw[if_neg h] at h2;exact h2
def GK{m:List ((Int×Int)×Stk)}{p q:(Int×Int)×Stk}(h:q∈putS m p):q∈m∨(q=p∧p.2.lots≠[]):=by
 unfold putS at h;split at h
 ·exact .inl (List.mem_filter.1 h).1
 ·rename_i h0;rcases List.mem_cons.1 (pb q h) with h1|h1
  ·exact .inr ⟨h1,fun h=>h0 (by rw[h];rfl)⟩
  ·exact .inl h1
def lm{q:(Int×Int)×Stk}:∀{n m:List ((Int×Int)×Stk)},q∈fX m n→q∈m∨(q∈n∧q.2.lots≠[])
 | [],m,h=>.inl h
 | p::n,m,h=>by
  rcases lm (n:=n) (m:=putS m p) h with h1|h1
  ·rcases GK h1 with h2|h2
   ·exact .inl h2
   ·exact .inr ⟨by rw[h2.1];exact aq ..,by rw[h2.1];exact h2.2⟩
  ·exact .inr ⟨au _ h1.1,h1.2⟩
def tX(d s:Nat)(m n:List (Int×Int)) :
  Tri ai 65 #[.map (some d),.map (some s)] [gmap kvI encN d m,gmap kvI encN s n] (fun _ L'=>∃m',(∀k,glk m' k=(glk n k).or (glk m k))∧L' = [gmap kvI encN d m']):=by
 refine Tri.bd ?_;refine G.ent Ent.swap ?_;refine G.g7 (km (b:=s) (kv:=kvI) (enc:=encN) (m:=n)) ?_;intro hn;refine Jq ?_;intros;refine GO.ef (Ef.l7 rfl) ag ?_;rintro _ _⟨r,rfl,rfl⟩;refine Jq ?_;intros;refine G.loop (α:=List (Int×Int)) (fun z=>z.length≤n.length) (fun z=>[(0,.map (some d)),(7,ax r)]) (fun z=>[iD kvI encN s n r z,gmap kvI encN d (iC m z)]) (fun z=>n.length - z.length) [] (aw _) av (Ent.refl _) ?_;intro z hz;refine Jq ?_;intros;refine GO.ef (Ef.l8 rfl) ag ?_;rintro _ _ (⟨rfl,rfl,hp⟩|⟨p,rfl,rfl,a1,a0,hl⟩)
 ·refine Jq ?_;intros;refine KX.e7 al Ent.drop ⟨iC m z,fun k=>?_,rfl⟩;rw[nQ k z m ((hp.map _).nodup_iff.2 hn),oZ hp hn]
 refine Jq ?_;intros;refine GO.ev (Ev.l7 (done:=z) rfl rfl) ag ?_;refine Jq ?_;intros;refine GO.efu (Ef.e7 (enc:=encN) (e:=p.2) rfl rfl rfl rfl) ?_;rintro _ _ rfl;refine Jq ?_;intros;refine⟨z++[p],by simp;omega,by simp;omega,av,?_⟩;rw[show iC m (z++[p])=gins (iC m z) p.1 p.2 by simp[iC]];exact ae
def tW(d s:Nat)(m:List (Int×Stk)) :
  Tri ai 66 #[.map (some d),.map (some s)] [gmap kvI Stk.v d m,gmap kvI Stk.v s []] (fun _ L'=>L' = [gmap kvI Stk.v d m]):=by
 refine Tri.bd ?_;refine G.ent Ent.swap ?_;refine Jq ?_;intros;refine GO.ef (Ef.l7 rfl) ag ?_;rintro _ _⟨r,rfl,rfl⟩;refine Jq ?_;intros;refine G.f7 1 (GR.step ?_);refine Jq ?_;intros;refine GO.ef (Ef.l8 rfl) ag ?_;rintro _ _ (⟨rfl,rfl,hp⟩|⟨p,rfl,rfl,a0,a1,hl⟩)
 ·refine Jq ?_;intros;exact KX.e7 al Ent.drop rfl
 ·exact absurd a0 bZ
end
section
open Go.V
attribute [local irreducible] G GO GP GPW GPK Ev Ef EfR Ent CB GB Enters
noncomputable def mH(S:LedM)(s:StM):LedM:={ S with stk:=(tryM S s).2.stk,tot:=(tryM S s).2.tot,steps:=S.steps++[s.at (aO S)],flows:=S.flows++(tryM S s).2.flows }
open Classical in
noncomputable def ln(S:LedM)(s:StM):LedM:=if(tryM S s).1=0 then mH S s else S
noncomputable def Cy(S:LedM)(s:StM):Int:=if(tryM S s).1=0 then aO S else 0
def Bz{o p:Option Int}{d:Int}:(o.or p).getD d=o.getD (p.getD d):=by cases o<;>rfl
def tI{sh:Int}{nf:Nat}{mix:Int→Bool}{s:StM}(hT:∀mx,TakeC mx)(a0:0≤sh):∀(ms:List MvM) (W:Wk),W.Ok nf→(∀m∈ms,1≤m.n∧m.n≤1099511627776)→(iW sh nf mix s W ms).1=0→(iW sh nf mix s W ms).2.Ok nf∧(iW sh nf mix s W ms).2.flows.length=W.flows.length+ms.length
 | [],W,hO,_,_=>⟨hO,rfl⟩
 | m::ms,W,hO,hn,he=>by
  have e:iW sh nf mix s W (m::ms)=if(ij sh nf mix s W m).1=0 then iW sh nf mix s (ij sh nf mix s W m).2 ms else((ij sh nf mix s W m).1,W):=rfl;rw[e] at he ⊢;by_cases h:(ij sh nf mix s W m).1=0
  ·rw[if_pos h] at he ⊢;obtain⟨h1,h2⟩:=xN hO hT (hn m (aq ..)) a0 h;obtain⟨h3,h4⟩:=tI hT a0 ms _ h1 (fun m hm=>hn m (au _ hm)) he;refine⟨h3,?_⟩;rw[h4,h2,bh];omega
  ·rw[if_neg h] at he;exact absurd he h
def Bq{S:LedM}{s:StM}(hS:S.Ok)(hT:∀mx,TakeC mx)(he:(tryM S s).1=0):S.steps.length<65536∧mI S.cat S.now s∧(tryM S s).2.Ok S.flows.length∧(tryM S s).2.flows.length=s.moves.length:=by
 unfold tryM at he ⊢;by_cases h1:65536≤S.steps.length
 ·rw[if_pos h1] at he;exact absurd (show(4:Int)=0 from he) ab
 rw[if_neg h1] at he ⊢;by_cases h2:mI S.cat S.now s
 case neg=>rw[if_pos h2] at he;exact absurd (show(1:Int)=0 from he) ab
 rw[if_neg (fun h=>h h2)] at he ⊢
 have h3:=tI hT hS.shard.1 s.moves (wk0 S) (EH hS) (fun m hm=>by
  have h4:=h2.2.2.2.1 m hm;unfold iY at h4;rw[fE] at h4;exact(of_decide_eq_true h4).2.1) he
 exact⟨ab,h2,h3.1,by rw[h3.2];simp[wk0]⟩
def GM{S:LedM}{s:StM}(hS:S.Ok)(hT:∀mx,TakeC mx):(ln S s).Ok:=by
 unfold ln;split
 ·rename_i he;obtain⟨h1,h2,h3,h4⟩:=Bq hS hT he;have hl:=h2.2.2.1.2;have hf:=hS.flows;refine⟨hS.shard,?_,?_,h3.stk,?_⟩
  ·simp only[mH,ay,bh,cQ];omega
  ·simp only[mH,ay,bh,cQ];omega
  ·intro i;have:=h3.tot i
   simp only[mH,ay];rw[Int.natCast_add];exact this
 ·exact hS
abbrev CX:=ay3 [.ev 4,.ef 5]
abbrev CW:=ay4 [.ef 6]
abbrev zF:=ay5 [.ef 8]
abbrev zD:=ay5 [.ef 8]
abbrev zC:=ay5 [.ef 8]
abbrev zB:=ay5 [.ev 8,.ef 9,.ev 10,.ev 11,.ef 12]
abbrev zA:=ay5 [.ev 8,.ef 9,.ef 10,.ev 11,.ev 12,.ef 13]
def Mc{φ ψ:Prop}(k:ψ)(h:Hid ψ→φ:=by intro k;(repeat (first|refine aa ?_|intro zzz|refine G.dr 100 8 CX ?_|refine G.dr 100 9 CW ?_|refine G.dr 100 10 zF ?_|refine G.dr 100 11 zD ?_|refine G.dr 100 12 zC ?_|refine G.dr 100 13 zB ?_|refine G.dr 100 14 zA ?_));(repeat revert zzz);exact Hid.out k):φ:=h ⟨k⟩
def uZ{L:LH}(b:Nat)(S:LedM)(hS:S.Ok)(hc:S.cat.Ok)(s:StV)(hs:StIn s)(hT:∀mx,TakeC mx) :
  Tri ai 24 #[ax b,aN (aT s)] (LedR b S::stM s::stP s::L) (fun v L'=>v=.tuple #[ac (Cy S s.m),ac (tryM S s.m).1]∧L' = LedR b (ln S s.m)::stM s::stP s::L):=by
 obtain⟨b0,a9⟩:=hS.shard;have b9:=hS.steps;have b6:=hS.flows;refine Tri.bd ?_;refine G.e7 (f:=ledA b S) ?_;intro x;simp only[ledA,ledL,ao,an];refine G.e8 ?_;intro hF;have b3:x.steps.length=S.steps.length:=by rw[←hF.steps];simp
 have b5:x.flows.length=S.flows.length:=by rw[←hF.flows];simp
 refine Mc ?_;intros;refine GO.ent Ent.drop ?_;refine GO.ca (Gy b S hS hc x hF s hs hT) ?_;rintro _ _ (⟨he,rfl,rfl⟩|⟨he,bc,s',z,rfl,⟨a8,hW⟩,rfl⟩)
 ·have e1:ln S s.m=S:=if_neg he;have e2:Cy S s.m=0:=if_neg he;rw[e1,e2];refine Mc ?_;intros;exact KX.d7 al (jL x hF) ⟨rfl,rfl⟩
 have e1:ln S s.m=mH S s.m:=if_pos he;have e2:Cy S s.m=aO S:=if_pos he;obtain⟨o1,o2,o3,o4⟩:=Bq hS hT he;have b4:s.m.moves.length≤64:=o2.2.2.1.2
 have b7:z.flows.length≤64:=by
  have:=congrArg List.length hW.flows
  rw[aA] at this;omega
 have b1:0<z.flows.length:=by
  have h1:=congrArg List.length hW.flows;rw[aA] at h1;have h2:=o2.2.2.1.1;omega
 have a4:s'.id=aO S:=congrArg StM.id a8;rw[e1,e2,he];simp only[chL,ledL,gj,bJ];refine Mc ?_;intros;refine GO.d9 (km (b:=z.cs) (kv:=kvP) (enc:=Stk.v) (m:=z.stk)) ?_;intro a6;refine GO.ef (Ef.l7 rfl) ag ?_;rintro _ _⟨r,rfl,rfl⟩;refine Mc ?_;intros
 refine G.loop (α:=List ((Int×Int)×Stk)) (fun g=>g.length≤z.stk.length) (fun _=>[(0,ax b),(6,ax bc),(23,ax r)])
  (fun g=>iD kvP Stk.v z.cs z.stk r g::gmap kvP Stk.v x.ms (fX x.stk g)::obj bc tCh (gj b s' z)::gmap kvI encN z.ct z.tot::gmap kvI Stk.v z.ci []::gmap kvI Stk.v z.cr []::osl bL 11 cz z.fad z.fcap z.flows::allP (fun p:(Int×Int)×Stk=>stkP p.2) z.stk::allP flP z.flows::obj b tLed (bJ S.shard x)::gmap kvI encN x.mt x.tot::asl aT 7 be x.sad x.scap x.steps::asl bL 11 cz x.fad x.fcap x.flows::gmap kvI Stk.v x.mi x.imp::gmap kvI Stk.v x.mr x.ret::catP x.cat::allP (fun p:(Int×Int)×Stk=>stkP p.2) x.stk::allP cC x.steps::allP flP x.flows::allP (fun p:Int×Stk=>stkP p.2) x.imp::allP (fun p:Int×Stk=>stkP p.2) x.ret::stM s'::stP s'::stM s::stP s::L)
  (fun g=>z.stk.length - g.length) [] (aw _) av ?_ ?_
 ·simp only[fX,List.foldl_nil];exact ae
 intro g hg;simp only[gj,bJ];refine Mc ?_;intros;refine GO.ef (Ef.l8 rfl) ag ?_;rintro _ _ (⟨rfl,rfl,hp⟩|⟨p,rfl,rfl,c0,b8,hl⟩)
 case inr =>
  have a7:fX x.stk (g++[p])=putS (fX x.stk g) p:=by simp[fX]
  refine Mc ?_;intros;refine GO.ev (Ev.l7 (done:=g) rfl rfl) ag ?_;simp only[kvP,Stk.v,bM,ga];by_cases h0:p.2.lots.length=0
  ·have a5:putS (fX x.stk g) p=gera (fX x.stk g) p.1:=if_pos h0;refine Mc ?_;intros;refine GPW.efu (Ef.m9 rfl rfl) ?_;rintro _ _ rfl;refine Mc ?_;intros;refine⟨g++[p],by simp;omega,by simp;omega,av,?_⟩;rw[a7,a5];exact ae
  ·have a5:putS (fX x.stk g) p=gins (fX x.stk g) p.1 p.2:=if_neg h0;refine Mc ?_;intros;refine GPW.efu (Ef.e7 (enc:=Stk.v) (e:=p.2) rfl rfl rfl rfl) ?_;rintro _ _ rfl;refine Mc ?_;intros;refine⟨g++[p],by simp;omega,by simp;omega,av,?_⟩;rw[a7,a5];exact ae
 refine Mc ?_;intros;(first|refine GPW.ef (Ef.call (tX x.mt z.ct x.tot z.tot) rfl cJ) ag ?_);rintro _ _⟨_,⟨m',b2,rfl⟩,hL⟩;simp only[ao,an] at hL;subst hL;refine Mc ?_;intros;(first|refine GPW.ef (Ef.call (tW x.mi z.ci x.imp) rfl cJ) ag ?_);rintro _ _⟨_,rfl,hL⟩;simp only[ao,an] at hL;subst hL;refine Mc ?_;intros;(first|refine GPW.ef (Ef.call (tW x.mr z.cr x.ret) rfl cJ) ag ?_);rintro _ _⟨_,rfl,hL⟩;simp only[ao,an] at hL;subst hL;refine Mc ?_;intros;refine GPW.ef (Ef.m6 (enc:=bL) (ys:=z.flows) rfl rfl rfl rfl rfl b1 (fun e _=>jf e) ab ab) ag ?_;rintro _ _⟨a2,a1,rfl,rfl⟩;refine Mc ?_;intros;refine GPW.ef (Ef.j0 (enc:=aT) (e:=s') rfl rfl rfl rfl rfl aK (jM _) ab ab) ag ?_;rintro _ _⟨a3,a0,rfl,rfl⟩;refine Mc ?_;intros;rw[a4];refine KX.d7 al ?_ ⟨rfl,rfl⟩;refine Ent.trans ?_ (jL (S:=mH S s.m) { x with stk:=fX x.stk g,tot:=m',steps:=x.steps++[s'],sad:=a3,scap:=a0,flows:=x.flows++z.flows,fad:=a2,fcap:=a1 } ⟨hF.cat,hF.catB,?_,?_,?_,?_,?_,hF.imp,hF.ret⟩)
 ·simp only[ledL,bJ,mH];refine(Ent.at (A:=stP s') (Ent.refl _)).trans ?_;refine(Ent.at (A:=stM s') (Ent.refl _)).trans ?_;refine(Ent.e9 (oF s') (cT iP)).trans ?_;refine(Ent.at (A:=allP cC x.steps) (Ent.refl _)).trans ?_;refine((Ent.d7 (Ent.f8 (f:=cC) (x:=s') kQ)).trans (Ent.g7 kQ)).trans ?_;refine(Ent.at (A:=allP flP z.flows) (Ent.refl _)).trans ?_;refine(Ent.at (A:=allP flP x.flows) (Ent.refl _)).trans ?_;refine(Ent.g7 kG).trans ?_;refine(Ent.at (A:=allP (fun p:(Int×Int)×Stk=>stkP p.2) z.stk) (Ent.refl _)).trans ?_;refine(Ent.at (A:=allP (fun p:(Int×Int)×Stk=>stkP p.2) x.stk) (Ent.refl _)).trans ?_;refine(Ent.g7 (f:=fun p:(Int×Int)×Stk=>stkP p.2) (fun p=>mR p.2)).trans ?_;refine(Ent.l5 (l':=fX x.stk g) (fun q hq=>?_)).trans ?_
  ·rcases lm hq with h1|h1
   ·exact bQ _ h1
   ·exact bz _ (hp.mem_iff.1 h1.1)
  exact ae
 ·intro a i;rw[mS _ _ _ ((hp.map _).nodup_iff.2 a6),oZ hp a6];exact hW.stk a i
 ·intro q hq;rcases lm hq with h1|h1
  ·exact hF.full q h1
  ·exact h1.2
 ·intro i;dsimp only;rw[b2,Bz];exact hW.tot i
 ·show(x.steps++[s']).map StV.m=S.steps++[s.m.at (aO S)];rw[aW,hF.steps,←a8];rfl
 ·show(x.flows++z.flows).map (·.m)=S.flows++(tryM S s.m).2.flows;rw[aW,hF.flows];exact congrArg _ hW.flows
end
section
open Go.V
attribute [local irreducible] G GO GP GPW GPK Ev Ef EfR Ent CB GB Enters
def CatV.d7{c c' : CatV}(h:c'.m=c.m)(hB:c.B):c'.B:=by
 obtain⟨b1,b2,b3,b4,b5,b6,b7⟩:=hB;have h1:c'.items=c.items:=congrArg CatM.items h;have h2:c'.rules.map RuV.m=c.rules.map RuV.m:=congrArg CatM.rules h;have h3:c'.tables.map TbV.m=c.tables.map TbV.m:=congrArg CatM.tables h;have h4:c'.taxes.map TxV.m=c.taxes.map TxV.m:=congrArg CatM.taxes h;have l2:c'.rules.length=c.rules.length:=by simpa using congrArg List.length h2
 have l3:c'.tables.length=c.tables.length:=by simpa using congrArg List.length h3
 have l4:c'.taxes.length=c.taxes.length:=by simpa using congrArg List.length h4
 refine⟨by rw[h1];exact b1,ab,ab,ab,?_,?_,?_⟩
 ·intro r hr;have hm:r.m∈c.rules.map RuV.m:=by rw[←h2];exact alStd0List_mem_map_of_mem hr
  obtain⟨q,hq,a0⟩:=List.mem_map.1 hm;obtain⟨q1,q2,q3⟩:=b5 q hq;have t1:q.take.l=r.take.l:=congrArg RuM.take a0;have t2:q.give.l=r.give.l:=congrArg RuM.give a0;have t3:q.back.l=r.back.l:=congrArg RuM.back a0;exact⟨by rw[←t1];exact q1,by rw[←t2];exact q2,by rw[←t3];exact q3⟩
 ·intro r hr;have hm:r.m∈c.tables.map TbV.m:=by rw[←h3];exact alStd0List_mem_map_of_mem hr
  obtain⟨q,hq,a0⟩:=List.mem_map.1 hm;obtain⟨q1,q2⟩:=b6 q hq;have t1:q.rows.map RwV.m=r.rows.map RwV.m:=congrArg TbM.rows a0;have t2:q.rows.length=r.rows.length:=by simpa using congrArg List.length t1
  refine⟨by rw[←t2];exact q1,?_⟩;intro w hw;have a1:w.m∈q.rows.map RwV.m:=by rw[t1];exact alStd0List_mem_map_of_mem hw
  obtain⟨y,hy,a2⟩:=List.mem_map.1 a1;have t4:y.give.l=w.give.l:=congrArg RwM.give a2;have:=q2 y hy
  unfold RwV.B at this ⊢;rw[←t4];exact this
 ·intro r hr;have hm:r.m∈c.taxes.map TxV.m:=by rw[←h4];exact alStd0List_mem_map_of_mem hr
  obtain⟨q,hq,a0⟩:=List.mem_map.1 hm;have q1:=b7 q hq;have t1:q.brs=r.brs:=congrArg TxM.brs a0;unfold TxV.B at q1 ⊢;rw[←t1];exact q1
end
section
def Hb{u v y1 y0 B:Nat}(hv:v<B)(hy:0<y1)(h0:0<B):(u*B+v) / (y1*B+y0)≤u / y1:=by
 rw[Nat.le_div_iff_mul_le hy];have hd:(u*B+v) / (y1*B+y0)*(y1*B+y0)≤u*B+v:=Nat.div_mul_le_self _ _;generalize (u*B+v) / (y1*B+y0)=q at *;have h1:q*y1*B≤q*(y1*B+y0):=by rw[Nat.mul_add,Nat.mul_assoc];exact Nat.le_add_right _ _
 have h2:q*y1*B<(u+1)*B:=by rw[Nat.add_mul];omega
 have h3:=Nat.lt_of_mul_lt_mul_right h2;omega
def BG{u v y1 y0 B q r:Nat}(hr:u=q*y1+r)(h:q*y0≤B*r+v):q*(y1*B+y0)≤u*B+v:=by
 subst hr;rw[Nat.mul_add,Nat.add_mul,←Nat.mul_assoc,Nat.mul_comm r B];omega
def In{u v y1 y0 B q r:Nat}(hr:u=q*y1+r)(h:B*r+v<q*y0)(hy:0<y1*B+y0):(u*B+v) / (y1*B+y0)<q:=by
 rw[Nat.div_lt_iff_lt_mul hy];subst hr;rw[Nat.mul_add,Nat.add_mul,←Nat.mul_assoc,Nat.mul_comm r B];omega
def su{u v y B:Nat}(hu:u<y)(hv:v<B)(hy:0<y):(u*B+v) / y<B:=by
 rw[Nat.div_lt_iff_lt_mul hy];have h1:(u+1)*B≤y*B:=Nat.mul_le_mul_right _ hu;rw[Nat.add_mul] at h1;rw[Nat.mul_comm B y];omega
def Hc{u v y1 y0 B q r:Nat}(hr:u=q*y1+r)(hB:B≤r)(hq:q≤B)(hy:y0<B):q*(y1*B+y0)≤u*B+v:=by
 refine BG hr ?_;have h1:q*y0≤B*y0:=Nat.mul_le_mul_right _ hq;have h2:B*y0≤B*r:=Nat.mul_le_mul_left _ (by omega);omega
def HD{n y q:Nat}(hy:0<y)(h1:n / y≤q)(h2:q*y≤n):q=n / y:=by
 have h3:q≤n / y:=(Nat.le_div_iff_mul_le hy).2 h2;omega
end
section
open Go.V
def mG(l:LL):∀i,i≤l.length→(List.range i).foldl (fun s k=>s+l[k]!.2.2) 0=lsum (l.take i):=by
 intro i;induction i with
 | zero=>intro _;simp[lsum]
 | succ i ih =>
  intro hi;rw[ft,cv,ih ab,eJ l ab];rfl
def iu(l:LL):lsum (l.take l.length)=lsum l:=by rw[aF (aB _)]
def rm{f g:Nat→Int}:∀(n:Nat),(∀k,k<n→f k=g k)→(List.range n).foldl (fun s k=>s+f k) 0=(List.range n).foldl (fun s k=>s+g k) (0:Int):=by
 intro n;induction n with
 | zero=>intro _;rfl
 | succ n ih =>
  intro h;rw[ft,cv,cv,ih (fun k hk=>h k ab)];simp[h n ab]
def jk{l:LL}(h:∀x∈l,LotOk x){k:Nat}(hk:k<l.length):0<lsum l:=by
 have h1:=gV h k ab;have h2:=eJ l hk;have h3:=h _ (aI hk);unfold LotOk at h3
 have h4:∀j,k+1≤j→j≤l.length→lsum (l.take (k+1))≤lsum (l.take j):=by
  intro j;induction j with
  | zero=>intro h;omega
  | succ j ih =>
   intro hj a0;rcases cc k j with h5|h5
   ·have h6:=ih ab ab;have h7:=eJ l (ab:j<l.length);have h8:=h _ (aI (ab:j<l.length));unfold LotOk at h8;omega
   ·obtain rfl:j=k:=ab;exact bg _
 have h5:=h4 l.length ab (aB _);rw[iu] at h5;omega
def EW{l:LL}{n:Int}(hl:∀x∈l,LotOk x)(h0:0≤n)(h1:n≤lsum l)(k:Nat)(hk:k<l.length):0≤shC l n k∧shC l n k≤l[k]!.2.2:=by
 have hs:=jk hl hk;have hw:=hl _ (aI hk);unfold LotOk at hw;have a4:0≤shQ l n k:=jF (dI h0 ab) ab;unfold shC;rcases Int.lt_or_le n (lsum l) with a2|a5
 ·have a3:shQ l n k<l[k]!.2.2:=by
   unfold shQ;refine Int.ediv_lt_of_lt_mul hs ?_;rw[Int.mul_comm];exact Int.mul_lt_mul_of_pos_left a2 ab
  constructor
  ·split<;>omega
  ·split<;>omega
 ·have hn:n=lsum l:=ab
  have a1:∀j,shQ l n j=l[j]!.2.2:=by
   intro j;unfold shQ;rw[hn];exact Int.mul_ediv_cancel_left _ ab
  have a0:ge l n=0:=by
   unfold ge;rw[rm (g:=fun j=>l[j]!.2.2) l.length (fun j _=>a1 j),mG l l.length (aB _),iu];omega
  rw[a0,a1 k];constructor
  ·split<;>omega
  ·rw[if_neg ab];omega
def nX(mixed:Bool)(l:LL)(n:Int)(hl:∀x∈l,LotOk x)(h0:0≤n)(h1:n≤lsum l)(k:Nat)(hk:k<l.length):0≤tkC mixed l n k∧tkC mixed l n k≤l[k]!.2.2:=by
 unfold tkC;split
 ·exact EW hl h0 h1 k hk
 ·exact ou h0 (fun x h=>(hl x h).w) k hk
def rkLt(R:Nat→Int)(i j:Nat):Prop:=R j<R i∨(R i=R j∧i<j)
def fi(R:Nat→Int)(n k:Nat):Nat:=((List.range n).filter (fun j=>decide (R k<R j∨(R j=R k∧j<k)))).length
def oH(l:LL)(n:Int)(k:Nat):Hz l n k=fi (shR l n) l.length k:=rfl
def jR{R:Nat→Int}{n:Nat}{o:List Nat}(hp:o.Perm (List.range n))(hs:o.Pairwise (rkLt R)){p:Nat}(h:p<o.length):fi R n o[p]=p:=by
 unfold fi;rw[←(hp.filter _).length_eq];have a0:=List.pairwise_iff_getElem.1 hs
 have e:o=o.take p++o[p]::o.drop (p+1):=by
  conv=>lhs;rw[←ew p o,eh h]
 have h1:(o.take p).filter (fun j=>decide (R o[p]<R j∨(R j=R o[p]∧j<o[p])))=o.take p:=by
  rw[List.filter_eq_self];intro x hx;obtain⟨i,hi,rfl⟩:=List.mem_iff_getElem.1 hx;rw[bG] at hi;rw[List.getElem_take];have:=a0 i p ab h ab
  simpa [rkLt] using this
 have h2:(o.drop (p+1)).filter (fun j=>decide (R o[p]<R j∨(R j=R o[p]∧j<o[p])))=[]:=by
  rw[List.filter_eq_nil_iff];intro x hx;obtain⟨i,hi,rfl⟩:=List.mem_iff_getElem.1 hx;rw[dQ] at hi;rw[List.getElem_drop];have:=a0 p (p+1+i) h ab ab
  unfold rkLt at this;simp only[decide_eq_true_eq];omega
 have h3:(o.filter (fun j=>decide (R o[p]<R j∨(R j=R o[p]∧j<o[p])))).length=((o.take p++o[p]::o.drop (p+1)).filter (fun j=>decide (R o[p]<R j∨(R j=R o[p]∧j<o[p])))).length:=by rw[←e]
 rw[h3,du,h1,cG bZ,h2];simp;omega
def qb(R:Nat→Int)(n:Nat):∃o:List Nat,o.Perm (List.range n)∧o.Pairwise (rkLt R):=by
 refine⟨(List.range n).mergeSort (fun i j=>decide (R j<R i∨(R i=R j∧i≤j))),List.mergeSort_perm _ _,?_⟩;have hp:=List.mergeSort_perm (List.range n) (fun i j=>decide (R j<R i∨(R i=R j∧i≤j)));have a1:=hp.nodup_iff.2 List.nodup_range;have hs:=List.pairwise_mergeSort (le:=fun i j=>decide (R j<R i∨(R i=R j∧i≤j))) (by intro a b c h1 h2;simp only[decide_eq_true_eq] at *;omega) (by intro a b;simp only[Bool.or_eq_true,decide_eq_true_eq];omega) (List.range n);rw[List.pairwise_iff_getElem] at hs ⊢;intro i j hi hj a0;have h1:=hs i j hi hj a0;have h2:=(List.pairwise_iff_getElem.1 a1) i j hi hj a0;simp only[decide_eq_true_eq] at h1;unfold rkLt;omega
def wX{R:Nat→Int}{n:Nat}{o:List Nat}(hp:o.Perm (List.range n))(hs:o.Pairwise (fun a b=>¬(R a<R b∨(R a=R b∧b<a)))):o.Pairwise (rkLt R):=by
 have a1:=hp.nodup_iff.2 List.nodup_range;rw[List.pairwise_iff_getElem] at hs ⊢;intro i j hi hj a0;have h1:=hs i j hi hj a0;have h2:=(List.pairwise_iff_getElem.1 a1) i j hi hj a0;unfold rkLt;omega
def iR{R:Nat→Int}{n:Nat}{o:List Nat}(hp:o.Perm (List.range n))(hs:o.Pairwise (rkLt R)){k m:Nat}(hk:k<n):k∈o.take m↔fi R n k<m:=by
 have hm:k∈o:=hp.mem_iff.2 (List.mem_range.2 hk);have a0:=hp.nodup_iff.2 List.nodup_range;obtain⟨p,a1,rfl⟩:=List.mem_iff_getElem.1 hm;rw[jR hp hs a1];constructor
 ·intro h;obtain⟨i,hi,he⟩:=List.mem_iff_getElem.1 h;rw[bG] at hi;rw[List.getElem_take] at he;have:=(fK a0).1 he
  omega
 ·intro h;refine List.mem_iff_getElem.2 ⟨p,by rw[bG];omega,?_⟩;rw[List.getElem_take]
def Jc{R:Nat→Int}{n m:Nat}(hm:m<n):∃k,k<n∧fi R n k=m∧∀j,j<n→j≠k→m≤fi R n j→rkLt R k j:=by
 obtain⟨o,hp,hs⟩:=qb R n;have hl:o.length=n:=by have:=hp.length_eq;simpa using this
 have a0:m<o.length:=ab;refine⟨o[m],List.mem_range.1 (hp.mem_iff.1 (ed a0)),jR hp hs a0,?_⟩;intro j hj a3 a4;have a2:j∈o:=hp.mem_iff.2 (List.mem_range.2 hj);obtain⟨p,a1,rfl⟩:=List.mem_iff_getElem.1 a2;rw[jR hp hs a1] at a4;have a5:p≠m:=by rintro rfl;exact a3 rfl
 exact(List.pairwise_iff_getElem.1 hs) m p a0 a1 ab
def tz{R:Nat→Int}{n i j:Nat}(hi:i<n)(hj:j<n)(h:fi R n i=fi R n j):i=j:=by
 obtain⟨o,hp,hs⟩:=qb R n;have a3:i∈o:=hp.mem_iff.2 (List.mem_range.2 hi);have a1:j∈o:=hp.mem_iff.2 (List.mem_range.2 hj);obtain⟨p,a2,rfl⟩:=List.mem_iff_getElem.1 a3;obtain⟨q,a0,rfl⟩:=List.mem_iff_getElem.1 a1;rw[jR hp hs a2,jR hp hs a0] at h;subst h;rfl
def db(n:Nat)(f:Nat→Int):Int:=(List.range n).foldl (fun s k=>s+f k) 0
def kh(f:Nat→Int):db 0 f=0:=rfl
def eG(n:Nat)(f:Nat→Int):db (n+1) f=db n f+f n:=by
 unfold db;rw[ft,cv];rfl
def ro{n:Nat}{f g:Nat→Int}(h:∀k,k<n→f k=g k):db n f=db n g:=by
 induction n with
 | zero=>rfl
 | succ n ih=>rw[eG,eG,ih (fun k hk=>h k ab),h n ab]
def uU(n:Nat)(f g:Nat→Int):db n (fun k=>f k+g k)=db n f+db n g:=by
 induction n with
 | zero=>rfl
 | succ n ih=>rw[eG,eG,eG,ih];omega
def EP(n:Nat)(f g:Nat→Int):db n (fun k=>f k - g k)=db n f - db n g:=by
 induction n with
 | zero=>rfl
 | succ n ih=>rw[eG,eG,eG,ih];omega
def uT(n:Nat)(c:Int)(f:Nat→Int):db n (fun k=>c*f k)=c*db n f:=by
 induction n with
 | zero=>simp[kh]
 | succ n ih=>rw[eG,eG,ih,Int.mul_add]
def lB{n:Nat}{f g:Nat→Int}(h:∀k,k<n→f k≤g k):db n f≤db n g:=by
 induction n with
 | zero=>exact bg _
 | succ n ih=>rw[eG,eG];have:=ih (fun k hk=>h k ab);have:=h n ab;omega
def nH(n:Nat)(c:Int):db n (fun _=>c)=n*c:=by
 induction n with
 | zero=>simp[kh]
 | succ n ih=>rw[eG,ih,Int.natCast_succ,Int.add_mul,Int.one_mul]
def uC{f:Nat→Int}{l l' : List Nat}(h:l.Perm l'):∀s:Int,l.foldl (fun s k=>s+f k) s=l'.foldl (fun s k=>s+f k) s:=by
 induction h with
 | nil=>intro s;rfl
 | cons x _ ih=>intro s;exact ih _
 | swap x y l=>intro s;simp only[fU];rw[show s+f y+f x=s+f x+f y by omega]
 | trans _ _ ih1 ih2=>intro s;rw[ih1,ih2]
def GI(R:Nat→Int){n m:Nat}(hm:m≤n):db n (fun k=>if fi R n k<m then 1 else 0)=m:=by
 obtain⟨o,hp,hs⟩:=qb R n;have hl:o.length=n:=by have:=hp.length_eq;simpa using this
 unfold db;rw[←uC hp]
 have h:∀q,q≤n→(o.take q).foldl (fun (s:Int) k=>s+if fi R n k<m then 1 else 0) 0=min q m:=by
  intro q;induction q with
  | zero=>intro _;simp
  | succ q ih =>
   intro hq;rw[aD ab,cv,ih ab];simp only[fU,List.foldl_nil];rw[jR hp hs ab];split<;>omega
 have h2:=h n (aB _);rw[aF ab] at h2;rw[h2];omega
def tJ(l:LL):lsum l=db l.length (fun k=>l[k]!.2.2):=by
 unfold db;rw[mG l l.length (aB _),iu]
def kR(l:LL)(n:Int):ge l n=n - db l.length (shQ l n):=rfl
def ma{l:LL}{n:Int}(hl:∀x∈l,LotOk x)(h0:l≠[]):0≤ge l n∧ge l n<l.length:=by
 have a0:0<l.length:=List.length_pos_iff.2 h0;have hs:=jk hl a0
 have h1:db l.length (fun k=>lsum l*shQ l n k+shR l n k)=db l.length (fun k=>n*l[k]!.2.2) :=
  ro (fun k _=>by unfold shQ shR;exact Int.mul_ediv_add_emod _ _)
 rw[uU,uT,uT,←tJ] at h1
 have h2:db l.length (shR l n)≤db l.length (fun _=>lsum l - 1):=lB (fun k _=>by
  have:=dF (n*l[k]!.2.2) hs
  unfold shR;omega)
 have h3:db l.length (fun _=>(0:Int))≤db l.length (shR l n):=lB (fun k _=>dA _ ab);rw[nH] at h2 h3
 have h4:lsum l*ge l n=db l.length (shR l n):=by
  rw[kR,Int.mul_sub];rw[Int.mul_comm (lsum l) n];omega
 have h5:0≤lsum l*ge l n:=by rw[h4];omega
 have h6:lsum l*ge l n<lsum l*l.length:=by
  rw[h4]
  have:(l.length:Int)*(lsum l - 1)<lsum l*l.length:=by
   rw[Int.mul_sub,Int.mul_one,Int.mul_comm];omega
  omega
 exact⟨Int.nonneg_of_mul_nonneg_right h5 hs,Int.lt_of_mul_lt_mul_left h6 ab⟩
def Ic{l:LL}{n:Int}(hl:∀x∈l,LotOk x)(h0:l≠[]):db l.length (shC l n)=n:=by
 obtain⟨h1,h2⟩:=ma (n:=n) hl h0
 have e:db l.length (shC l n)=db l.length (fun k=>shQ l n k+(if fi (shR l n) l.length k<(ge l n).toNat then 1 else 0)):=ro (fun k _=>by
  unfold shC;rw[oH];congr 1;by_cases hb:fi (shR l n) l.length k<(ge l n).toNat
  ·rw[if_pos hb,if_pos ab]
  ·rw[if_neg hb,if_neg ab])
 rw[e,uU,GI _ ab,kR] at *;omega
def Is(l:LL)(m:Int):∀k,fuR l m k=m - db k (fuC l m):=by
 intro k;induction k with
 | zero=>simp[fuR,kh]
 | succ k ih =>
  rw[eG];show fuR l m k - min (fuR l m k) l[k]!.2.2=_;unfold fuC at *;omega
def It{l:LL}{m:Int}(hl:∀x∈l,LotOk x)(h0:0≤m)(h1:m≤lsum l):db l.length (fuC l m)=m:=by
 have h2:∀k,k≤l.length→fuR l m k=max 0 (m - lsum (l.take k)):=by
  intro k;induction k with
  | zero=>intro _;simp[fuR,lsum];omega
  | succ k ih =>
   intro hk;have h3:=hl _ (aI (ab:k<l.length));have h4:=gV hl k ab;unfold LotOk at h3;simp only[fuR];rw[ih ab,eJ l ab];omega
 have h3:=h2 l.length (aB _);rw[iu,Is] at h3;omega
def HS{mixed:Bool}{l:LL}{n:Int}(hl:∀x∈l,LotOk x)(h0:0≤n)(h1:n≤lsum l):db l.length (tkC mixed l n)=n:=by
 unfold tkC;split
 ·rename_i h;refine Ic hl ?_;rintro rfl;simp[lsum] at h1;omega
 ·exact It hl h0 h1
def gR(a b:LL):lsum (a++b)=lsum a+lsum b:=by
 have h:∀(l:LL) (s:Int),l.foldl (fun s x=>s+x.2.2) s=s+l.foldl (fun s x=>s+x.2.2) 0:=by
  intro l;induction l with
  | nil=>intro s;simp
  | cons x l ih=>intro s;simp only[fU];rw[ih,ih (0+x.2.2)];omega
 unfold lsum;rw[cv,h]
def gq(x:Lot):lsum [x]=x.2.2:=by simp[lsum]
def mK(l:LL)(x:Lot):lsum (aY l x)=lsum l+x.2.2:=by
 unfold aY;split
 ·omega
 ·split
  ·rename_i h;obtain⟨h1,_⟩:=h
   have e:l=l.take (l.length - 1)++[l[l.length - 1]!]:=by
    conv=>lhs;rw[←ew (l.length - 1) l,eh ab,bC ab]
    rw[getElem!_of ab]
   have e2:l.set (l.length - 1) (l[l.length - 1]!.1,l[l.length - 1]!.2.1,l[l.length - 1]!.2.2+x.2.2)=l.take (l.length - 1)++[(l[l.length - 1]!.1,l[l.length - 1]!.2.1,l[l.length - 1]!.2.2+x.2.2)]:=by
    rw[List.set_eq_take_append_cons_drop,if_pos ab,bC ab]
   have e3:lsum l=lsum (l.take (l.length - 1))+l[l.length - 1]!.2.2:=by
    conv=>lhs;rw[e]
    rw[gR,gq]
   rw[e2,gR,gq,e3];dsimp only;omega
  ·rw[gR,gq]
def Hs(l:LL)(cs:Nat→Int)(m:Nat):lsum (divR l cs m)=db m (fun k=>l[k]!.2.2 - cs k):=by
 induction m with
 | zero=>rfl
 | succ m ih=>rw[nD,mK,ih,eG];rfl
def FB{mixed:Bool}{l:LL}{n:Int}(hl:∀x∈l,LotOk x)(h0:0≤n)(h1:n≤lsum l):lsum (eN mixed l n)=lsum l - n:=by
 unfold eN;rw[Hs,EP,HS hl h0 h1,←tJ]
