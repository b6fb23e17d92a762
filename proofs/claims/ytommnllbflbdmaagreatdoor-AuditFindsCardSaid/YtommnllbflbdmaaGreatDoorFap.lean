/- Lemmas. -/
import Derived.Test.YtommnllbflbdmaaGreatDoorFao
set_option linter.all false
set_option maxHeartbeats 4000000
namespace Go.Proofs.YtommnllbflbdmaaGreatDoor
section
open Go.V
attribute [local irreducible] G GO GP GPW GPK Ev Ef EfR Ent CB GB Enters
section plain
variable {κ α:Type}[DecidableEq κ]
def sE(p:κ×α)(l:List (κ×α))(k:κ):glk (p::l) k=if k=p.1 then some p.2 else glk l k:=by
 obtain⟨q,a⟩:=p;unfold glk;rw[dq];by_cases h:k=q
 ·subst h;simp
 ·have hb:(k == q)=false:=by simpa using h
  simp only[hb,if_neg h]
def kc(m:List (κ×α))(k q:κ)(a:α):glk (gins m k a) q=if q=k then some a else glk m q:=ip
def Hw(m:List (κ×α))(k q:κ):glk (gera m k) q=if q=k then none else glk m q:=Bq
def yv{l:List (κ×α)}{k:κ}(h:k∉l.map (·.1)):glk l k=none:=by
 induction l with
 | nil=>rfl
 | cons p l ih =>
  simp only[bL,bA,not_or] at h;rw[sE,if_neg h.1,ih h.2]
def pb{l l' : List (κ×α)}(hp:l.Perm l')(hn:(l'.map (·.1)).Nodup)(k:κ):glk l k=glk l' k:=by
 have a0:(l.map (·.1)).Nodup:=(hp.map _).nodup_iff.2 hn;cases h:glk l k with
 | some a=>exact(lJ hn (hp.mem_iff.1 (ji h))).symm
 | none =>
  cases h2:glk l' k with
  | none=>rfl
  | some a =>
   have h3:glk l k=some a:=lJ a0 (hp.mem_iff.2 (ji h2));rw[h] at h3;cases h3
def iy(m n:List (κ×α)):List (κ×α):=n.foldl (fun m p=>gins m p.1 p.2) m
def nR(k:κ):∀(n m:List (κ×α)),(n.map (·.1)).Nodup→glk (iy m n) k=(glk n k).or (glk m k)
 | [],m,_=>rfl
 | p::n,m,hn=>by
  simp only[bL,dX] at hn;have ih:=nR k n (gins m p.1 p.2) hn.2;have e:iy m (p::n)=iy (gins m p.1 p.2) n:=rfl;rw[e,ih,sE,kc];by_cases h:k=p.1
  ·rw[if_pos h,if_pos h,yv (h▸hn.1)];rfl
  ·rw[if_neg h,if_neg h]
end plain
def putS(m:List ((Int×Int)×Stk))(p:(Int×Int)×Stk):List ((Int×Int)×Stk):=if p.2.lots.length=0 then gera m p.1 else gins m p.1 p.2
def fX(m n:List ((Int×Int)×Stk)):List ((Int×Int)×Stk):=n.foldl putS m
def tj(m:List ((Int×Int)×Stk))(p:(Int×Int)×Stk)(k:Int×Int):(eY (putS m p) k).lots=if k=p.1 then p.2.lots else(eY m k).lots:=by
 unfold eY putS;by_cases h0:p.2.lots.length=0
 ·rw[if_pos h0,Hw];by_cases h:k=p.1
  ·rw[if_pos h,if_pos h,aX h0];rfl
  ·rw[if_neg h,if_neg h]
 ·rw[if_neg h0,kc];by_cases h:k=p.1
  ·rw[if_pos h,if_pos h];rfl
  ·rw[if_neg h,if_neg h]
def mR(k:Int×Int):∀(n m:List ((Int×Int)×Stk)),(n.map (·.1)).Nodup→(eY (fX m n) k).lots=((glk n k).getD (eY m k)).lots
 | [],m,_=>rfl
 | p::n,m,hn=>by
  simp only[bL,dX] at hn;have ih:=mR k n (putS m p) hn.2;have e:fX m (p::n)=fX (putS m p) n:=rfl;rw[e,ih,sE];by_cases h:k=p.1
  ·rw[if_pos h,yv (h▸hn.1)];have h2:=tj m p k;rw[if_pos h] at h2;exact h2
  ·rw[if_neg h];cases glk n k with
   | some s=>rfl
   | none =>
    have h2:=tj m p k;rw[if_neg h] at h2;exact h2
def Hg{m:List ((Int×Int)×Stk)}{p q:(Int×Int)×Stk}(h:q∈putS m p):q∈m∨(q=p∧p.2.lots≠[]):=by
 unfold putS at h;split at h
 ·exact .inl (List.mem_filter.1 h).1
 ·rename_i h0;rcases List.mem_cons.1 (pf q h) with h1|h1
  ·exact .inr ⟨h1,fun h=>h0 (by rw[h];rfl)⟩
  ·exact .inl h1
def lk{q:(Int×Int)×Stk}:∀{n m:List ((Int×Int)×Stk)},q∈fX m n→q∈m∨(q∈n∧q.2.lots≠[])
 | [],m,h=>.inl h
 | p::n,m,h=>by
  rcases lk (n:=n) (m:=putS m p) h with h1|h1
  ·rcases Hg h1 with h2|h2
   ·exact .inl h2
   ·exact .inr ⟨by rw[h2.1];exact au ..,by rw[h2.1];exact h2.2⟩
  ·exact .inr ⟨aw _ h1.1,h1.2⟩
def ue(d s:Nat)(m n:List (Int×Int)) :
  Tri ai 65 #[.map (some d),.map (some s)] [gmap kvI encN d m,gmap kvI encN s n] (fun _ L'=>∃m',(∀k,glk m' k=(glk n k).or (glk m k))∧L' = [gmap kvI encN d m']):=by
 refine Tri.bd ?_;refine G.ent Ent.swap ?_;refine G.f8 (ln (b:=s) (kv:=kvI) (enc:=encN) (m:=n)) ?_;intro hn;refine JM ?_;intros;refine GO.ef (Ef.l7 rfl) ae ?_;rintro _ _⟨r,rfl,rfl⟩;refine JM ?_;intros;refine G.loop (α:=List (Int×Int)) (fun z=>z.length≤n.length) (fun z=>[(0,.map (some d)),(7,ay r)]) (fun z=>[jp kvI encN s n r z,gmap kvI encN d (iy m z)]) (fun z=>n.length - z.length) [] (ax _) av (Ent.refl _) ?_;intro z hz;refine JM ?_;intros;refine GO.ef (Ef.l9 rfl) ae ?_;rintro _ _ (⟨rfl,rfl,hp⟩|⟨p,rfl,rfl,a0,a1,hl⟩)
 ·refine JM ?_;intros;refine KX.e7 an Ent.drop ⟨iy m z,fun k=>?_,rfl⟩;rw[nR k z m ((hp.map _).nodup_iff.2 hn),pb hp hn]
 refine JM ?_;intros;refine GO.ev (Ev.m5 (done:=z) rfl rfl) ae ?_;refine JM ?_;intros;refine GO.efu (Ef.e8 (enc:=encN) (e:=p.2) rfl rfl rfl rfl) ?_;rintro _ _ rfl;refine JM ?_;intros;refine⟨z++[p],by simp;omega,by simp;omega,av,?_⟩;rw[show iy m (z++[p])=gins (iy m z) p.1 p.2 by simp[iy]];exact ag
def ud(d s:Nat)(m:List (Int×Stk)) :
  Tri ai 66 #[.map (some d),.map (some s)] [gmap kvI Stk.v d m,gmap kvI Stk.v s []] (fun _ L'=>L' = [gmap kvI Stk.v d m]):=by
 refine Tri.bd ?_;refine G.ent Ent.swap ?_;refine JM ?_;intros;refine GO.ef (Ef.l7 rfl) ae ?_;rintro _ _⟨r,rfl,rfl⟩;refine JM ?_;intros;refine G.e8 1 (GR.step ?_);refine JM ?_;intros;refine GO.ef (Ef.l9 rfl) ae ?_;rintro _ _ (⟨rfl,rfl,hp⟩|⟨p,rfl,rfl,a0,a1,hl⟩)
 ·refine JM ?_;intros;exact KX.e7 an Ent.drop rfl
 ·exact absurd a0 ce
end
section
open Go.V
attribute [local irreducible] G GO GP GPW GPK Ev Ef EfR Ent CB GB Enters
noncomputable def mG(S:LedM)(s:StM):LedM:={ S with stk:=(tryM S s).2.stk,tot:=(tryM S s).2.tot,steps:=S.steps++[s.at (aP S)],flows:=S.flows++(tryM S s).2.flows }
open Classical in
noncomputable def ll(S:LedM)(s:StM):LedM:=if(tryM S s).1=0 then mG S s else S
noncomputable def CP(S:LedM)(s:StM):Int:=if(tryM S s).1=0 then aP S else 0
def BS{o p:Option Int}{d:Int}:(o.or p).getD d=o.getD (p.getD d):=by cases o<;>rfl
def tO{sh:Int}{nf:Nat}{mix:Int→Bool}{s:StM}(hT:∀mx,TakeC mx)(a0:0≤sh):∀(ms:List MvM) (W:Wk),W.Ok nf→(∀m∈ms,1≤m.n∧m.n≤1099511627776)→(iL sh nf mix s W ms).1=0→(iL sh nf mix s W ms).2.Ok nf∧(iL sh nf mix s W ms).2.flows.length=W.flows.length+ms.length
 | [],W,hO,_,_=>⟨hO,rfl⟩
 | m::ms,W,hO,hn,he=>by
  have e:iL sh nf mix s W (m::ms)=if(hU sh nf mix s W m).1=0 then iL sh nf mix s (hU sh nf mix s W m).2 ms else((hU sh nf mix s W m).1,W):=rfl;rw[e] at he ⊢;by_cases h:(hU sh nf mix s W m).1=0
  ·rw[if_pos h] at he ⊢;obtain⟨h1,h2⟩:=yd hO hT (hn m (au ..)) a0 h;obtain⟨h3,h4⟩:=tO hT a0 ms _ h1 (fun m hm=>hn m (aw _ hm)) he;refine⟨h3,?_⟩;rw[h4,h2,bD];omega
  ·rw[if_neg h] at he;exact absurd he h
def BI{S:LedM}{s:StM}(hS:S.Ok)(hT:∀mx,TakeC mx)(he:(tryM S s).1=0):S.steps.length<65536∧mH S.cat S.now s∧(tryM S s).2.Ok S.flows.length∧(tryM S s).2.flows.length=s.moves.length:=by
 unfold tryM at he ⊢;by_cases h1:65536≤S.steps.length
 ·rw[if_pos h1] at he;exact absurd (show(4:Int)=0 from he) ab
 rw[if_neg h1] at he ⊢;by_cases h2:mH S.cat S.now s
 case neg=>rw[if_pos h2] at he;exact absurd (show(1:Int)=0 from he) ab
 rw[if_neg (fun h=>h h2)] at he ⊢
 have h3:=tO hT hS.shard.1 s.moves (wk0 S) (EV hS) (fun m hm=>by
  have h4:=h2.2.2.2.1 m hm;unfold iN at h4;rw[fu] at h4;exact(of_decide_eq_true h4).2.1) he
 exact⟨ab,h2,h3.1,by rw[h3.2];simp[wk0]⟩
def Hi{S:LedM}{s:StM}(hS:S.Ok)(hT:∀mx,TakeC mx):(ll S s).Ok:=by
 unfold ll;split
 ·rename_i he;obtain⟨h1,h2,h3,h4⟩:=BI hS hT he;have hl:=h2.2.2.1.2;have hf:=hS.flows;refine⟨hS.shard,?_,?_,h3.stk,?_⟩
  ·simp only[mG,aq,bD,cB];omega
  ·simp only[mG,aq,bD,cB];omega
  ·intro i;have:=h3.tot i
   simp only[mG,aq];rw[Int.natCast_add];exact this
 ·exact hS
abbrev Dn:=aG9 [.ev 4,.ef 5]
abbrev Dm:=aH0 [.ef 6]
abbrev zV:=aH1 [.ef 8]
abbrev zU:=aH1 [.ef 8]
abbrev zT:=aH1 [.ef 8]
abbrev zS:=aH1 [.ev 8,.ef 9,.ev 10,.ev 11,.ef 12]
abbrev zR:=aH1 [.ev 8,.ef 9,.ef 10,.ev 11,.ev 12,.ef 13]
def Mx{φ ψ:Prop}(k:ψ)(h:Hid ψ→φ:=by intro k;(repeat (first|refine aa ?_|intro zzz|refine G.dr 100 8 Dn ?_|refine G.dr 100 9 Dm ?_|refine G.dr 100 10 zV ?_|refine G.dr 100 11 zU ?_|refine G.dr 100 12 zT ?_|refine G.dr 100 13 zS ?_|refine G.dr 100 14 zR ?_));(repeat revert zzz);exact Hid.out k):φ:=h ⟨k⟩
def vi{L:LH}(b:Nat)(S:LedM)(hS:S.Ok)(hc:S.cat.Ok)(s:StV)(hs:StIn s)(hT:∀mx,TakeC mx) :
  Tri ai 24 #[ay b,aO (aN s)] (LedR b S::stM s::stP s::L) (rtQ (.tuple #[ac (CP S s.m),ac (tryM S s.m).1]) (LedR b (ll S s.m)::stM s::stP s::L)):=by
 obtain⟨b0,b1⟩:=hS.shard;have b7:=hS.steps;have b3:=hS.flows;refine Tri.bd ?_;refine G.d9 (f:=ledA b S) ?_;intro x;simp only[ledA,ledL,ao,al];refine G.e9 ?_;intro hF;have b9:x.steps.length=S.steps.length:=by rw[←hF.steps];simp
 have b8:x.flows.length=S.flows.length:=by rw[←hF.flows];simp
 refine Mx ?_;intros;refine GO.ent Ent.drop ?_;refine GO.ca (GX b S hS hc x hF s hs hT) ?_;rintro _ _ (⟨he,rfl,rfl⟩|⟨he,bc,s',z,rfl,⟨a8,hW⟩,rfl⟩)
 ·have e1:ll S s.m=S:=if_neg he;have e2:CP S s.m=0:=if_neg he;rw[e1,e2];refine Mx ?_;intros;exact KX.d7 an (kD x hF) ⟨rfl,rfl⟩
 have e1:ll S s.m=mG S s.m:=if_pos he;have e2:CP S s.m=aP S:=if_pos he;obtain⟨o1,o2,o3,o4⟩:=BI hS hT he;have b4:s.m.moves.length≤64:=o2.2.2.1.2
 have c0:z.flows.length≤64:=by
  have:=congrArg List.length hW.flows
  rw[az] at this;omega
 have b2:0<z.flows.length:=by
  have h1:=congrArg List.length hW.flows;rw[az] at h1;have h2:=o2.2.2.1.1;omega
 have a4:s'.id=aP S:=congrArg StM.id a8;rw[e1,e2,he];simp only[chL,ledL,gm,bR];refine Mx ?_;intros;refine GO.d8 (ln (b:=z.cs) (kv:=kvP) (enc:=Stk.v) (m:=z.stk)) ?_;intro a6;refine GO.ef (Ef.l7 rfl) ae ?_;rintro _ _⟨r,rfl,rfl⟩;refine Mx ?_;intros
 refine G.loop (α:=List ((Int×Int)×Stk)) (fun g=>g.length≤z.stk.length) (fun _=>[(0,ay b),(6,ay bc),(23,ay r)])
  (fun g=>jp kvP Stk.v z.cs z.stk r g::gmap kvP Stk.v x.ms (fX x.stk g)::obj bc tCh (gm b s' z)::gmap kvI encN z.ct z.tot::gmap kvI Stk.v z.ci []::gmap kvI Stk.v z.cr []::osl aQ 11 bE z.fad z.fcap z.flows::allP (fun p:(Int×Int)×Stk=>stkP p.2) z.stk::allP flP z.flows::obj b tLed (bR S.shard x)::gmap kvI encN x.mt x.tot::asl aN 7 ba x.sad x.scap x.steps::asl aQ 11 bE x.fad x.fcap x.flows::gmap kvI Stk.v x.mi x.imp::gmap kvI Stk.v x.mr x.ret::catP x.cat::allP (fun p:(Int×Int)×Stk=>stkP p.2) x.stk::allP cH x.steps::allP flP x.flows::allP (fun p:Int×Stk=>stkP p.2) x.imp::allP (fun p:Int×Stk=>stkP p.2) x.ret::stM s'::stP s'::stM s::stP s::L)
  (fun g=>z.stk.length - g.length) [] (ax _) av ?_ ?_
 ·simp only[fX,List.foldl_nil];exact ag
 intro g hg;simp only[gm,bR];refine Mx ?_;intros;refine GO.ef (Ef.l9 rfl) ae ?_;rintro _ _ (⟨rfl,rfl,hp⟩|⟨p,rfl,rfl,b5,b6,hl⟩)
 case inr =>
  have a7:fX x.stk (g++[p])=putS (fX x.stk g) p:=by simp[fX]
  refine Mx ?_;intros;refine GO.ev (Ev.m5 (done:=g) rfl rfl) ae ?_;simp only[kvP,Stk.v,bL,gD];by_cases h0:p.2.lots.length=0
  ·have a3:putS (fX x.stk g) p=gera (fX x.stk g) p.1:=if_pos h0;refine Mx ?_;intros;refine GPW.efu (Ef.m9 rfl rfl) ?_;rintro _ _ rfl;refine Mx ?_;intros;refine⟨g++[p],by simp;omega,by simp;omega,av,?_⟩;rw[a7,a3];exact ag
  ·have a3:putS (fX x.stk g) p=gins (fX x.stk g) p.1 p.2:=if_neg h0;refine Mx ?_;intros;refine GPW.efu (Ef.e8 (enc:=Stk.v) (e:=p.2) rfl rfl rfl rfl) ?_;rintro _ _ rfl;refine Mx ?_;intros;refine⟨g++[p],by simp;omega,by simp;omega,av,?_⟩;rw[a7,a3];exact ag
 refine Mx ?_;intros;(first|refine GPW.ef (Ef.call (ue x.mt z.ct x.tot z.tot) rfl cN) ae ?_);rintro _ _⟨_,⟨m',a9,rfl⟩,hL⟩;simp only[ao,al] at hL;subst hL;refine Mx ?_;intros;(first|refine GPW.ef (Ef.call (ud x.mi z.ci x.imp) rfl cN) ae ?_);rintro _ _⟨_,rfl,hL⟩;simp only[ao,al] at hL;subst hL;refine Mx ?_;intros;(first|refine GPW.ef (Ef.call (ud x.mr z.cr x.ret) rfl cN) ae ?_);rintro _ _⟨_,rfl,hL⟩;simp only[ao,al] at hL;subst hL;refine Mx ?_;intros;refine GPW.ef (Ef.m6 (enc:=aQ) (ys:=z.flows) rfl rfl rfl rfl rfl b2 (fun e _=>fZ e) ab ab) ae ?_;rintro _ _⟨a2,a0,rfl,rfl⟩;refine Mx ?_;intros;refine GPW.ef (Ef.j0 (enc:=aN) (e:=s') rfl rfl rfl rfl rfl aK (jz _) ab ab) ae ?_;rintro _ _⟨a5,a1,rfl,rfl⟩;refine Mx ?_;intros;rw[a4];refine KX.d7 an ?_ ⟨rfl,rfl⟩;refine Ent.trans ?_ (kD (S:=mG S s.m) { x with stk:=fX x.stk g,tot:=m',steps:=x.steps++[s'],sad:=a5,scap:=a1,flows:=x.flows++z.flows,fad:=a2,fcap:=a0 } ⟨hF.cat,hF.catB,?_,?_,?_,?_,?_,hF.imp,hF.ret⟩)
 ·simp only[ledL,bR,mG];refine(Ent.at (A:=stP s') (Ent.refl _)).trans ?_;refine(Ent.at (A:=stM s') (Ent.refl _)).trans ?_;refine(Ent.e9 (np s') (cQ ix)).trans ?_;refine(Ent.at (A:=allP cH x.steps) (Ent.refl _)).trans ?_;refine((Ent.d7 (Ent.f8 (f:=cH) (x:=s') kN)).trans (Ent.g7 kN)).trans ?_;refine(Ent.at (A:=allP flP z.flows) (Ent.refl _)).trans ?_;refine(Ent.at (A:=allP flP x.flows) (Ent.refl _)).trans ?_;refine(Ent.g7 jK).trans ?_;refine(Ent.at (A:=allP (fun p:(Int×Int)×Stk=>stkP p.2) z.stk) (Ent.refl _)).trans ?_;refine(Ent.at (A:=allP (fun p:(Int×Int)×Stk=>stkP p.2) x.stk) (Ent.refl _)).trans ?_;refine(Ent.g7 (f:=fun p:(Int×Int)×Stk=>stkP p.2) (fun p=>mQ p.2)).trans ?_;refine(Ent.j0 (l':=fX x.stk g) (fun q hq=>?_)).trans ?_
  ·rcases lk hq with h1|h1
   ·exact bT _ h1
   ·exact bJ _ (hp.mem_iff.1 h1.1)
  exact ag
 ·intro a i;rw[mR _ _ _ ((hp.map _).nodup_iff.2 a6),pb hp a6];exact hW.stk a i
 ·intro q hq;rcases lk hq with h1|h1
  ·exact hF.full q h1
  ·exact h1.2
 ·intro i;dsimp only;rw[a9,BS];exact hW.tot i
 ·show(x.steps++[s']).map StV.m=S.steps++[s.m.at (aP S)];rw[aW,hF.steps,←a8];rfl
 ·show(x.flows++z.flows).map (·.m)=S.flows++(tryM S s.m).2.flows;rw[aW,hF.flows];exact congrArg _ hW.flows
end
section
open Go.V
attribute [local irreducible] G GO GP GPW GPK Ev Ef EfR Ent CB GB Enters
def CatV.d7{c c' : CatV}(h:c'.m=c.m)(hB:c.B):c'.B:=by
 obtain⟨b1,b2,b3,b4,b5,b6,b7⟩:=hB;have h1:c'.items=c.items:=congrArg CatM.items h;have h2:c'.rules.map RuV.m=c.rules.map RuV.m:=congrArg CatM.rules h;have h3:c'.tables.map TbV.m=c.tables.map TbV.m:=congrArg CatM.tables h;have h4:c'.taxes.map TxV.m=c.taxes.map TxV.m:=congrArg CatM.taxes h;have l2:c'.rules.length=c.rules.length:=by simpa using congrArg List.length h2
 have l3:c'.tables.length=c.tables.length:=by simpa using congrArg List.length h3
 have l4:c'.taxes.length=c.taxes.length:=by simpa using congrArg List.length h4
 refine⟨by rw[h1];exact b1,ab,ab,ab,?_,?_,?_⟩
 ·intro r hr;have hm:r.m∈c.rules.map RuV.m:=by rw[←h2];exact alStd0List_mem_map_of_mem hr
  obtain⟨q,hq,a0⟩:=List.mem_map.1 hm;obtain⟨q1,q2,q3⟩:=b5 q hq;have t1:q.take.l=r.take.l:=congrArg RuM.take a0;have t2:q.give.l=r.give.l:=congrArg RuM.give a0;have t3:q.back.l=r.back.l:=congrArg RuM.back a0;exact⟨by rw[←t1];exact q1,by rw[←t2];exact q2,by rw[←t3];exact q3⟩
 ·intro r hr;have hm:r.m∈c.tables.map TbV.m:=by rw[←h3];exact alStd0List_mem_map_of_mem hr
  obtain⟨q,hq,a0⟩:=List.mem_map.1 hm;obtain⟨q1,q2⟩:=b6 q hq;have t1:q.rows.map RwV.m=r.rows.map RwV.m:=congrArg TbM.rows a0;have t2:q.rows.length=r.rows.length:=by simpa using congrArg List.length t1
  refine⟨by rw[←t2];exact q1,?_⟩;intro w hw;have a1:w.m∈q.rows.map RwV.m:=by rw[t1];exact alStd0List_mem_map_of_mem hw
  obtain⟨y,hy,a2⟩:=List.mem_map.1 a1;have t4:y.give.l=w.give.l:=congrArg RwM.give a2;have:=q2 y hy
  unfold RwV.B at this ⊢;rw[←t4];exact this
 ·intro r hr;have hm:r.m∈c.taxes.map TxV.m:=by rw[←h4];exact alStd0List_mem_map_of_mem hr
  obtain⟨q,hq,a0⟩:=List.mem_map.1 hm;have q1:=b7 q hq;have t1:q.brs=r.brs:=congrArg TxM.brs a0;unfold TxV.B at q1 ⊢;rw[←t1];exact q1
end
section
def Ht{u v y1 y0 B:Nat}(hv:v<B)(hy:0<y1)(h0:0<B):(u*B+v) / (y1*B+y0)≤u / y1:=by
 rw[Nat.le_div_iff_mul_le hy];have hd:(u*B+v) / (y1*B+y0)*(y1*B+y0)≤u*B+v:=Nat.div_mul_le_self _ _;generalize (u*B+v) / (y1*B+y0)=q at *;have h1:q*y1*B≤q*(y1*B+y0):=by rw[Nat.mul_add,Nat.mul_assoc];exact Nat.le_add_right _ _
 have h2:q*y1*B<(u+1)*B:=by rw[Nat.add_mul];omega
 have h3:=Nat.lt_of_mul_lt_mul_right h2;omega
def BX{u v y1 y0 B q r:Nat}(hr:u=q*y1+r)(h:q*y0≤B*r+v):q*(y1*B+y0)≤u*B+v:=by
 subst hr;rw[Nat.mul_add,Nat.add_mul,←Nat.mul_assoc,Nat.mul_comm r B];omega
def IF{u v y1 y0 B q r:Nat}(hr:u=q*y1+r)(h:B*r+v<q*y0)(hy:0<y1*B+y0):(u*B+v) / (y1*B+y0)<q:=by
 rw[Nat.div_lt_iff_lt_mul hy];subst hr;rw[Nat.mul_add,Nat.add_mul,←Nat.mul_assoc,Nat.mul_comm r B];omega
def sB{u v y B:Nat}(hu:u<y)(hv:v<B)(hy:0<y):(u*B+v) / y<B:=by
 rw[Nat.div_lt_iff_lt_mul hy];have h1:(u+1)*B≤y*B:=Nat.mul_le_mul_right _ hu;rw[Nat.add_mul] at h1;rw[Nat.mul_comm B y];omega
def Hu{u v y1 y0 B q r:Nat}(hr:u=q*y1+r)(hB:B≤r)(hq:q≤B)(hy:y0<B):q*(y1*B+y0)≤u*B+v:=by
 refine BX hr ?_;have h1:q*y0≤B*y0:=Nat.mul_le_mul_right _ hq;have h2:B*y0≤B*r:=Nat.mul_le_mul_left _ (by omega);omega
def HX{n y q:Nat}(hy:0<y)(h1:n / y≤q)(h2:q*y≤n):q=n / y:=by
 have h3:q≤n / y:=(Nat.le_div_iff_mul_le hy).2 h2;omega
end
section
open Go.V
def mF(l:LL):∀i,i≤l.length→(List.range i).foldl (fun s k=>s+l[k]!.2.2) 0=lsum (l.take i):=by
 intro i;induction i with
 | zero=>intro _;simp[lsum]
 | succ i ih =>
  intro hi;rw[fq,cv,ih ab,eK l ab];rfl
def im(l:LL):lsum (l.take l.length)=lsum l:=by rw[aD (aB _)]
def rq{f g:Nat→Int}:∀(n:Nat),(∀k,k<n→f k=g k)→(List.range n).foldl (fun s k=>s+f k) 0=(List.range n).foldl (fun s k=>s+g k) (0:Int):=by
 intro n;induction n with
 | zero=>intro _;rfl
 | succ n ih =>
  intro h;rw[fq,cv,cv,ih (fun k hk=>h k ab)];simp[h n ab]
def jy{l:LL}(h:∀x∈l,LotOk x){k:Nat}(hk:k<l.length):0<lsum l:=by
 have h1:=gZ h k ab;have h2:=eK l hk;have h3:=h _ (aJ hk);unfold LotOk at h3
 have h4:∀j,k+1≤j→j≤l.length→lsum (l.take (k+1))≤lsum (l.take j):=by
  intro j;induction j with
  | zero=>intro h;omega
  | succ j ih =>
   intro hj a0;rcases cm k j with h5|h5
   ·have h6:=ih ab ab;have h7:=eK l (ab:j<l.length);have h8:=h _ (aJ (ab:j<l.length));unfold LotOk at h8;omega
   ·obtain rfl:j=k:=ab;exact bB _
 have h5:=h4 l.length ab (aB _);rw[im] at h5;omega
def Fk{l:LL}{n:Int}(hl:∀x∈l,LotOk x)(h0:0≤n)(h1:n≤lsum l)(k:Nat)(hk:k<l.length):0≤shC l n k∧shC l n k≤l[k]!.2.2:=by
 have hs:=jy hl hk;have hw:=hl _ (aJ hk);unfold LotOk at hw;have a4:0≤shQ l n k:=jr (dH h0 ab) ab;unfold shC;rcases Int.lt_or_le n (lsum l) with a2|a3
 ·have a5:shQ l n k<l[k]!.2.2:=by
   unfold shQ;refine Int.ediv_lt_of_lt_mul hs ?_;rw[Int.mul_comm];exact Int.mul_lt_mul_of_pos_left a2 ab
  constructor
  ·split<;>omega
  ·split<;>omega
 ·have hn:n=lsum l:=ab
  have a1:∀j,shQ l n j=l[j]!.2.2:=by
   intro j;unfold shQ;rw[hn];exact Int.mul_ediv_cancel_left _ ab
  have a0:gg l n=0:=by
   unfold gg;rw[rq (g:=fun j=>l[j]!.2.2) l.length (fun j _=>a1 j),mF l l.length (aB _),im];omega
  rw[a0,a1 k];constructor
  ·split<;>omega
  ·rw[if_neg ab];omega
def nY(mixed:Bool)(l:LL)(n:Int)(hl:∀x∈l,LotOk x)(h0:0≤n)(h1:n≤lsum l)(k:Nat)(hk:k<l.length):0≤tkC mixed l n k∧tkC mixed l n k≤l[k]!.2.2:=by
 unfold tkC;split
 ·exact Fk hl h0 h1 k hk
 ·exact ow h0 (fun x h=>(hl x h).w) k hk
def rkLt(R:Nat→Int)(i j:Nat):Prop:=R j<R i∨(R i=R j∧i<j)
def eZ(R:Nat→Int)(n k:Nat):Nat:=((List.range n).filter (fun j=>decide (R k<R j∨(R j=R k∧j<k)))).length
def oH(l:LL)(n:Int)(k:Nat):HT l n k=eZ (shR l n) l.length k:=rfl
def jE{R:Nat→Int}{n:Nat}{o:List Nat}(hp:o.Perm (List.range n))(hs:o.Pairwise (rkLt R)){p:Nat}(h:p<o.length):eZ R n o[p]=p:=by
 unfold eZ;rw[←(hp.filter _).length_eq];have a0:=List.pairwise_iff_getElem.1 hs
 have e:o=o.take p++o[p]::o.drop (p+1):=by
  conv=>lhs;rw[←dj p o,ey h]
 have h1:(o.take p).filter (fun j=>decide (R o[p]<R j∨(R j=R o[p]∧j<o[p])))=o.take p:=by
  rw[List.filter_eq_self];intro x hx;obtain⟨i,hi,rfl⟩:=List.mem_iff_getElem.1 hx;rw[bg] at hi;rw[List.getElem_take];have:=a0 i p ab h ab
  simpa [rkLt] using this
 have h2:(o.drop (p+1)).filter (fun j=>decide (R o[p]<R j∨(R j=R o[p]∧j<o[p])))=[]:=by
  rw[List.filter_eq_nil_iff];intro x hx;obtain⟨i,hi,rfl⟩:=List.mem_iff_getElem.1 hx;rw[cu] at hi;rw[List.getElem_drop];have:=a0 p (p+1+i) h ab ab
  unfold rkLt at this;simp only[decide_eq_true_eq];omega
 have h3:(o.filter (fun j=>decide (R o[p]<R j∨(R j=R o[p]∧j<o[p])))).length=((o.take p++o[p]::o.drop (p+1)).filter (fun j=>decide (R o[p]<R j∨(R j=R o[p]∧j<o[p])))).length:=by rw[←e]
 rw[h3,dm,h1,cJ ce,h2];simp;omega
def qf(R:Nat→Int)(n:Nat):∃o:List Nat,o.Perm (List.range n)∧o.Pairwise (rkLt R):=by
 refine⟨(List.range n).mergeSort (fun i j=>decide (R j<R i∨(R i=R j∧i≤j))),List.mergeSort_perm _ _,?_⟩;have hp:=List.mergeSort_perm (List.range n) (fun i j=>decide (R j<R i∨(R i=R j∧i≤j)));have a1:=hp.nodup_iff.2 List.nodup_range;have hs:=List.pairwise_mergeSort (le:=fun i j=>decide (R j<R i∨(R i=R j∧i≤j))) (by intro a b c h1 h2;simp only[decide_eq_true_eq] at *;omega) (by intro a b;simp only[Bool.or_eq_true,decide_eq_true_eq];omega) (List.range n);rw[List.pairwise_iff_getElem] at hs ⊢;intro i j hi hj a0;have h1:=hs i j hi hj a0;have h2:=(List.pairwise_iff_getElem.1 a1) i j hi hj a0;simp only[decide_eq_true_eq] at h1;unfold rkLt;omega
def xm{R:Nat→Int}{n:Nat}{o:List Nat}(hp:o.Perm (List.range n))(hs:o.Pairwise (fun a b=>¬(R a<R b∨(R a=R b∧b<a)))):o.Pairwise (rkLt R):=by
 have a1:=hp.nodup_iff.2 List.nodup_range;rw[List.pairwise_iff_getElem] at hs ⊢;intro i j hi hj a0;have h1:=hs i j hi hj a0;have h2:=(List.pairwise_iff_getElem.1 a1) i j hi hj a0;unfold rkLt;omega
def iI{R:Nat→Int}{n:Nat}{o:List Nat}(hp:o.Perm (List.range n))(hs:o.Pairwise (rkLt R)){k m:Nat}(hk:k<n):k∈o.take m↔eZ R n k<m:=by
 have hm:k∈o:=hp.mem_iff.2 (List.mem_range.2 hk);have a0:=hp.nodup_iff.2 List.nodup_range;obtain⟨p,a1,rfl⟩:=List.mem_iff_getElem.1 hm;rw[jE hp hs a1];constructor
 ·intro h;obtain⟨i,hi,he⟩:=List.mem_iff_getElem.1 h;rw[bg] at hi;rw[List.getElem_take] at he;have:=(fI a0).1 he
  omega
 ·intro h;refine List.mem_iff_getElem.2 ⟨p,by rw[bg];omega,?_⟩;rw[List.getElem_take]
def Jv{R:Nat→Int}{n m:Nat}(hm:m<n):∃k,k<n∧eZ R n k=m∧∀j,j<n→j≠k→m≤eZ R n j→rkLt R k j:=by
 obtain⟨o,hp,hs⟩:=qf R n;have hl:o.length=n:=by have:=hp.length_eq;simpa using this
 have a0:m<o.length:=ab;refine⟨o[m],List.mem_range.1 (hp.mem_iff.1 (ew a0)),jE hp hs a0,?_⟩;intro j hj a4 a3;have a2:j∈o:=hp.mem_iff.2 (List.mem_range.2 hj);obtain⟨p,a1,rfl⟩:=List.mem_iff_getElem.1 a2;rw[jE hp hs a1] at a3;have a5:p≠m:=by rintro rfl;exact a4 rfl
 exact(List.pairwise_iff_getElem.1 hs) m p a0 a1 ab
def tD{R:Nat→Int}{n i j:Nat}(hi:i<n)(hj:j<n)(h:eZ R n i=eZ R n j):i=j:=by
 obtain⟨o,hp,hs⟩:=qf R n;have a0:i∈o:=hp.mem_iff.2 (List.mem_range.2 hi);have a1:j∈o:=hp.mem_iff.2 (List.mem_range.2 hj);obtain⟨p,a2,rfl⟩:=List.mem_iff_getElem.1 a0;obtain⟨q,a3,rfl⟩:=List.mem_iff_getElem.1 a1;rw[jE hp hs a2,jE hp hs a3] at h;subst h;rfl
def de(n:Nat)(f:Nat→Int):Int:=(List.range n).foldl (fun s k=>s+f k) 0
def kg(f:Nat→Int):de 0 f=0:=rfl
def eJ(n:Nat)(f:Nat→Int):de (n+1) f=de n f+f n:=by
 unfold de;rw[fq,cv];rfl
def rr{n:Nat}{f g:Nat→Int}(h:∀k,k<n→f k=g k):de n f=de n g:=by
 induction n with
 | zero=>rfl
 | succ n ih=>rw[eJ,eJ,ih (fun k hk=>h k ab),h n ab]
def vd(n:Nat)(f g:Nat→Int):de n (fun k=>f k+g k)=de n f+de n g:=by
 induction n with
 | zero=>rfl
 | succ n ih=>rw[eJ,eJ,eJ,ih];omega
def Fc(n:Nat)(f g:Nat→Int):de n (fun k=>f k - g k)=de n f - de n g:=by
 induction n with
 | zero=>rfl
 | succ n ih=>rw[eJ,eJ,eJ,ih];omega
def vc(n:Nat)(c:Int)(f:Nat→Int):de n (fun k=>c*f k)=c*de n f:=by
 induction n with
 | zero=>simp[kg]
 | succ n ih=>rw[eJ,eJ,ih,Int.mul_add]
def lB{n:Nat}{f g:Nat→Int}(h:∀k,k<n→f k≤g k):de n f≤de n g:=by
 induction n with
 | zero=>exact bB _
 | succ n ih=>rw[eJ,eJ];have:=ih (fun k hk=>h k ab);have:=h n ab;omega
def nK(n:Nat)(c:Int):de n (fun _=>c)=n*c:=by
 induction n with
 | zero=>simp[kg]
 | succ n ih=>rw[eJ,ih,Int.natCast_succ,Int.add_mul,Int.one_mul]
def uO{f:Nat→Int}{l l' : List Nat}(h:l.Perm l'):∀s:Int,l.foldl (fun s k=>s+f k) s=l'.foldl (fun s k=>s+f k) s:=by
 induction h with
 | nil=>intro s;rfl
 | cons x _ ih=>intro s;exact ih _
 | swap x y l=>intro s;simp only[fR];rw[show s+f y+f x=s+f x+f y by omega]
 | trans _ _ ih1 ih2=>intro s;rw[ih1,ih2]
def He(R:Nat→Int){n m:Nat}(hm:m≤n):de n (fun k=>if eZ R n k<m then 1 else 0)=m:=by
 obtain⟨o,hp,hs⟩:=qf R n;have hl:o.length=n:=by have:=hp.length_eq;simpa using this
 unfold de;rw[←uO hp]
 have h:∀q,q≤n→(o.take q).foldl (fun (s:Int) k=>s+if eZ R n k<m then 1 else 0) 0=min q m:=by
  intro q;induction q with
  | zero=>intro _;simp
  | succ q ih =>
   intro hq;rw[aG ab,cv,ih ab];simp only[fR,List.foldl_nil];rw[jE hp hs ab];split<;>omega
 have h2:=h n (aB _);rw[aD ab] at h2;rw[h2];omega
def tP(l:LL):lsum l=de l.length (fun k=>l[k]!.2.2):=by
 unfold de;rw[mF l l.length (aB _),im]
def kO(l:LL)(n:Int):gg l n=n - de l.length (shQ l n):=rfl
def me{l:LL}{n:Int}(hl:∀x∈l,LotOk x)(h0:l≠[]):0≤gg l n∧gg l n<l.length:=by
 have a0:0<l.length:=List.length_pos_iff.2 h0;have hs:=jy hl a0
 have h1:de l.length (fun k=>lsum l*shQ l n k+shR l n k)=de l.length (fun k=>n*l[k]!.2.2) :=
  rr (fun k _=>by unfold shQ shR;exact Int.mul_ediv_add_emod _ _)
 rw[vd,vc,vc,←tP] at h1
 have h2:de l.length (shR l n)≤de l.length (fun _=>lsum l - 1):=lB (fun k _=>by
  have:=dE (n*l[k]!.2.2) hs
  unfold shR;omega)
 have h3:de l.length (fun _=>(0:Int))≤de l.length (shR l n):=lB (fun k _=>dC _ ab);rw[nK] at h2 h3
 have h4:lsum l*gg l n=de l.length (shR l n):=by
  rw[kO,Int.mul_sub];rw[Int.mul_comm (lsum l) n];omega
 have h5:0≤lsum l*gg l n:=by rw[h4];omega
 have h6:lsum l*gg l n<lsum l*l.length:=by
  rw[h4]
  have:(l.length:Int)*(lsum l - 1)<lsum l*l.length:=by
   rw[Int.mul_sub,Int.mul_one,Int.mul_comm];omega
  omega
 exact⟨Int.nonneg_of_mul_nonneg_right h5 hs,Int.lt_of_mul_lt_mul_left h6 ab⟩
def Iu{l:LL}{n:Int}(hl:∀x∈l,LotOk x)(h0:l≠[]):de l.length (shC l n)=n:=by
 obtain⟨h1,h2⟩:=me (n:=n) hl h0
 have e:de l.length (shC l n)=de l.length (fun k=>shQ l n k+(if eZ (shR l n) l.length k<(gg l n).toNat then 1 else 0)):=rr (fun k _=>by
  unfold shC;rw[oH];congr 1;by_cases hb:eZ (shR l n) l.length k<(gg l n).toNat
  ·rw[if_pos hb,if_pos ab]
  ·rw[if_neg hb,if_neg ab])
 rw[e,vd,He _ ab,kO] at *;omega
def IK(l:LL)(m:Int):∀k,fuR l m k=m - de k (fuC l m):=by
 intro k;induction k with
 | zero=>simp[fuR,kg]
 | succ k ih =>
  rw[eJ];show fuR l m k - min (fuR l m k) l[k]!.2.2=_;unfold fuC at *;omega
def IL{l:LL}{m:Int}(hl:∀x∈l,LotOk x)(h0:0≤m)(h1:m≤lsum l):de l.length (fuC l m)=m:=by
 have h2:∀k,k≤l.length→fuR l m k=max 0 (m - lsum (l.take k)):=by
  intro k;induction k with
  | zero=>intro _;simp[fuR,lsum];omega
  | succ k ih =>
   intro hk;have h3:=hl _ (aJ (ab:k<l.length));have h4:=gZ hl k ab;unfold LotOk at h3;simp only[fuR];rw[ih ab,eK l ab];omega
 have h3:=h2 l.length (aB _);rw[im,IK] at h3;omega
def Il{mixed:Bool}{l:LL}{n:Int}(hl:∀x∈l,LotOk x)(h0:0≤n)(h1:n≤lsum l):de l.length (tkC mixed l n)=n:=by
 unfold tkC;split
 ·rename_i h;refine Iu hl ?_;rintro rfl;simp[lsum] at h1;omega
 ·exact IL hl h0 h1
def gV(a b:LL):lsum (a++b)=lsum a+lsum b:=by
 have h:∀(l:LL) (s:Int),l.foldl (fun s x=>s+x.2.2) s=s+l.foldl (fun s x=>s+x.2.2) 0:=by
  intro l;induction l with
  | nil=>intro s;simp
  | cons x l ih=>intro s;simp only[fR];rw[ih,ih (0+x.2.2)];omega
 unfold lsum;rw[cv,h]
def gq(x:Lot):lsum [x]=x.2.2:=by simp[lsum]
def oW(l:LL)(x:Lot):lsum (aZ l x)=lsum l+x.2.2:=by
 unfold aZ;split
 ·omega
 ·split
  ·rename_i h;obtain⟨h1,_⟩:=h
   have e:l=l.take (l.length - 1)++[l[l.length - 1]!]:=by
    conv=>lhs;rw[←dj (l.length - 1) l,ey ab,bG ab]
    rw[getElem!_of ab]
   have e2:l.set (l.length - 1) (l[l.length - 1]!.1,l[l.length - 1]!.2.1,l[l.length - 1]!.2.2+x.2.2)=l.take (l.length - 1)++[(l[l.length - 1]!.1,l[l.length - 1]!.2.1,l[l.length - 1]!.2.2+x.2.2)]:=by
    rw[List.set_eq_take_append_cons_drop,if_pos ab,bG ab]
   have e3:lsum l=lsum (l.take (l.length - 1))+l[l.length - 1]!.2.2:=by
    conv=>lhs;rw[e]
    rw[gV,gq]
   rw[e2,gV,gq,e3];dsimp only;omega
  ·rw[gV,gq]
def HI(l:LL)(cs:Nat→Int)(m:Nat):lsum (divR l cs m)=de m (fun k=>l[k]!.2.2 - cs k):=by
 induction m with
 | zero=>rfl
 | succ m ih=>rw[nD,oW,ih,eJ];rfl
def FQ{mixed:Bool}{l:LL}{n:Int}(hl:∀x∈l,LotOk x)(h0:0≤n)(h1:n≤lsum l):lsum (eU mixed l n)=lsum l - n:=by
 unfold eU;rw[HI,Fc,Il hl h0 h1,←tP]
end
section
open Go.V
attribute [local irreducible] G GO GP GPW GPK Ev Ef EfR Ent CB GB V.Enters
abbrev tSrt:Nat:=255
abbrev srtC(b3 b1:Nat)(c:CatV):LH:=[obj b3 tSrt [.func (.func 188) #[] #[ay b1]],obj b1 tCat c.cells]
def xh{r:RuV}{L:LH}:Ent (ruP r::L) (amS r.take::amS r.give::amS r.back::ruP r::L):=(Ent.dup (ju r).pers).trans ruOpen
def IY(b3 b1:Nat)(c:CatV)(hc:c.items.length≤64)(r:RuV)(h:RuGood c.items.length r.m):fS 190 [ay b3] cX ruP (cS (srtC b3 b1 c)) r:=by
 intro L;have hl:=h.lim;change r.take.l.length+r.give.l.length≤64∧r.take.l.length+r.back.l.length≤64 at hl;refine Tri.bd (args:=[aO (cX r),ay b3]) ?_;refine G.ent (Ent.openS.trans (Ent.d7 (Ent.d7 xh))) ?_;refine JM ?_;intros;refine GO.ent (Ent.at (A:=amS r.take) (Ent.at (A:=obj b1 tCat c.cells) (Ent.refl _))) ?_;refine GO.ef (Ef.d8 rfl rfl (sT b1 c r.take.ad r.take.cap r.take.l ab hc h.take)) ae ?_;rintro _ _⟨rfl,rfl⟩;refine JM ?_;intros;refine GO.ent (Ent.at (A:=amS r.give) (Ent.at (A:=obj b1 tCat c.cells) (Ent.refl _))) ?_;refine GO.ef (Ef.d8 rfl rfl (sT b1 c r.give.ad r.give.cap r.give.l ab hc h.give)) ae ?_;rintro _ _⟨rfl,rfl⟩;refine JM ?_;intros;refine GO.ent (Ent.at (A:=amS r.back) (Ent.at (A:=obj b1 tCat c.cells) (Ent.refl _))) ?_;refine GO.ef (Ef.d8 rfl rfl (sT b1 c r.back.ad r.back.cap r.back.l ab hc h.back)) ae ?_;rintro _ _⟨rfl,rfl⟩;refine JM ?_;intros;refine GO.cr (wc _ r h) ?_;refine JM ?_;intros;(first|refine GO.ef (Ef.call (BD (L:=[]) c.items.length r.take.ad r.back.ad r.take.cap r.back.cap r.take.l r.back.l ab ab h.take h.back h.cont) rfl cN) ae ?_);rintro _ _⟨_,⟨rfl,rfl⟩,hL⟩;simp only[ao,al] at hL;subst hL;refine JM ?_;intros;refine KX.d7 an ?_ ⟨rfl,rfl⟩;refine Ent.trans ?_ Ent.l6;simp only[ao,al];exact ag
def Ik(b3 b1:Nat)(c:CatV)(hc:c.items.length≤64)(r:RwV)(hl:r.give.l.length≤64)(h:ly c.items.length r.give.l):fS 195 [ay b3] gj rwP (cS (srtC b3 b1 c)) r:=by
 intro L;refine Tri.bd (args:=[aO (gj r),ay b3]) ?_;refine G.ent Ent.openS ?_;simp only[ao,al];refine JM ?_;intros;refine GO.ent (Ent.at (A:=amS r.give) (Ent.at (A:=obj b1 tCat c.cells) (Ent.refl _))) ?_;refine GO.ef (Ef.d8 rfl rfl (sT b1 c r.give.ad r.give.cap r.give.l hl hc h)) ae ?_;rintro _ _⟨rfl,rfl⟩;refine JM ?_;intros;refine KX.d7 an ?_ ⟨rfl,rfl⟩;refine Ent.trans ?_ Ent.l6;simp only[ao,al];exact ag
def rV{t:TbV}{L:LH}:Ent (tbP t::L) (isl gj 2 t.ad t.rows::allP rwP t.rows::tbP t::L):=(Ent.dup (kw t).pers).trans Ent.andE
def qb{n:Nat}{t:TbV}(h:TbGood n t.m):(0<t.rows.length∧t.rows.length≤64)∧∀r∈t.rows,RwGood n r.m:=by
 have h1:=h.rows;have h2:=h.good;simp only[TbV.m,az] at h1 h2;exact⟨h1,fun r hr=>h2 _ (alStd0List_mem_map_of_mem hr)⟩
def IX(b3 b1:Nat)(c:CatV)(hc:c.items.length≤64)(t:TbV)(hB:t.B)(h:TbGood c.items.length t.m):fS 193 [ay b3] eG tbP (cS (srtC b3 b1 c)) t:=by
 intro L;obtain⟨⟨r1,r2⟩,r3⟩:=qb h;refine Tri.bd (args:=[aO (eG t),ay b3]) ?_;refine G.ent (Ent.d7 rV) ?_;refine JM ?_;intros;(first|refine GO.ef (Ef.call (qD (L:=[]) _ [ay b3] (cS (srtC b3 b1 c)) t.ad t.cap t.rows r2 (fun r hr=>Ik b3 b1 c hc r (hB.2 r hr) (r3 r hr).give)) rfl cN) ae ?_);rintro _ _⟨_,⟨rfl,rfl⟩,hL⟩;simp only[ao,al] at hL;subst hL;refine JM ?_;intros;exact KX.en ⟨rfl,rfl⟩
abbrev Dq:=aH3 [.ev 13]
def MN{φ ψ:Prop}(k:ψ)(h:Hid ψ→φ:=by intro k;(repeat (first|refine aa ?_|intro zzz|refine G.dr 37 6 Dq ?_));(repeat revert zzz);exact Hid.out k):φ:=h ⟨k⟩
def wP(t:TxV)(h:TxGood t.m):fS 196 [] eD txP (dA True) t:=by
 intro L;obtain⟨h1,h2⟩:=h.brs;change 0<t.brs.length at h1;change t.brs.length≤16 at h2;have h3:t.brs[(0:Int).toNat]!.1=0:=h.first;have h4:∀i,i+1<t.brs.length→t.brs[i]!.1<t.brs[i+1]!.1:=h.srt;refine Tri.bd (args:=[aO (eD t)]) ?_;refine G.ent (L':=isl cA 2 t.ad t.brs::dA True::L) (by unfold txP;exact ag) ?_;refine MN ?_;intros;rename_i b1;refine G.loop (α:=Nat) (fun i=>1≤i∧i≤t.brs.length) (fun i=>[(1,ay b1),(3,ac (i:Int))]) (fun _=>obj b1 160 (eD t)::isl cA 2 t.ad t.brs::dA True::L) (fun i=>t.brs.length - i) 1 ⟨ab,ab⟩ av ag ?_;rintro i ⟨a0,a1⟩;by_cases a2:i<t.brs.length
 case neg =>
  refine MN ?_;intros;refine KX.d7 an ?_ ⟨rfl,rfl⟩;unfold txP;exact ag
 have h5:=h4 (i - 1) ab;rw[show i - 1+1=i by omega] at h5
 have h6:t.brs[((i:Int) - 1).toNat]!.1<t.brs[(i:Int).toNat]!.1:=by
  rw[show((i:Int) - 1).toNat=i - 1 by omega,show(i:Int).toNat=i by omega];exact h5
 refine MN ?_;intros;refine⟨i+1,⟨ab,ab⟩,ab,?_,by exact ag⟩;rw[aY i];exact av
def vX{L:LH}(c:CatV)(hB:c.B)(h:CatGood c.m):Tri ai 114 #[aO c.cells] (catS c (bZ::L)) (rtQ (.bool true) (catS c (bZ::L))):=by
 obtain⟨l1,l2,l3,l4⟩:=lens h;refine Tri.bd ?_;simp only[catS];refine JM ?_;intros;rename_i b1 b3;refine GO.ent (Ent.pure trivial (oq c.items)) ?_;simp only[CatV.cells];refine JM ?_;intros;(first|refine GO.ef (Ef.call (qE (L:=[]) _ [] (dA True) c.iad c.icap c.items l1 (fun x hx=>wk x (h.it x hx))) rfl cN) ae ?_);rintro _ _⟨_,⟨rfl,rfl⟩,hL⟩;simp only[ao,al] at hL;subst hL;refine JM ?_;intros;refine GO.ent (L':=cS (srtC b3 b1 c)::dA True::isl dD 7 c.iad c.items::isl cX 9 c.rad c.rules::allP ruP c.rules::isl eG 2 c.tad c.tables::allP tbP c.tables::isl eD 2 c.xad c.taxes::allP txP c.taxes::bZ::L) ?_ ?_
 ·refine Ent.trans ?_ Ent.l6;simp only[srtC,CatV.cells,ao,al];exact ag
 (first|refine GO.ef (Ef.call (nz (L:=[]) _ [ay b3] (cS (srtC b3 b1 c)) c.rad c.rcap c.rules l2 (fun r hr=>IY b3 b1 c l1 r (pD h r hr))) rfl cN) ae ?_);rintro _ _⟨_,⟨rfl,rfl⟩,hL⟩;simp only[ao,al] at hL;subst hL;refine GO.ent (Ent.openS (A:=srtC b3 b1 c)) ?_;simp only[srtC,CatV.cells,ao,al];refine JM ?_;intros;refine GO.ent (L':=cS (srtC b3 b1 c)::dA True::isl dD 7 c.iad c.items::isl cX 9 c.rad c.rules::allP ruP c.rules::isl eG 2 c.tad c.tables::allP tbP c.tables::isl eD 2 c.xad c.taxes::allP txP c.taxes::bZ::L) ?_ ?_
 ·refine Ent.trans ?_ Ent.l6;simp only[srtC,CatV.cells,ao,al];exact ag
 (first|refine GO.ef (Ef.call (ny (L:=[]) _ [ay b3] (cS (srtC b3 b1 c)) c.tad c.tcap c.tables ab (fun r hr=>IX b3 b1 c l1 r (hB.tb r hr) (pC h r hr))) rfl cN) ae ?_);rintro _ _⟨_,⟨rfl,rfl⟩,hL⟩;simp only[ao,al] at hL;subst hL;refine GO.ent (Ent.openS (A:=srtC b3 b1 c)) ?_;simp only[srtC,CatV.cells,ao,al];refine JM ?_;intros;(first|refine GO.ef (Ef.call (nx (L:=[]) _ [] (dA True) c.xad c.xcap c.taxes ab (fun r hr=>wP r (pB h r hr))) rfl cN) ae ?_);rintro _ _⟨_,⟨rfl,rfl⟩,hL⟩;simp only[ao,al] at hL;subst hL;refine JM ?_;intros;exact KX.en ⟨rfl,rfl⟩
def IH(a:Int×Int)(h:1≤a.2∧a.2≤1099511627776):fS 199 [] cA noP (dA True) a:=by
 intro L;obtain⟨h1,h2⟩:=h;refine Tri.bd (args:=[aO (cA a)]) ?_;refine JM ?_;intros;exact KX.d7 an Ent.drop ⟨by rw[aU h2];rfl,rfl⟩
def tU{L:LH}(n:Nat)(ad:OA)(cap:Nat)(l:List (Int×Int))(hl:l.length≤64)(h:ly n l):Tri ai 197 #[ah ad l.length cap] (isl cA 2 ad l::L) (rtQ (.bool true) (isl cA 2 ad l::L)):=by
 refine Tri.bd ?_;refine JM ?_;intros;refine GO.ent (Ent.pure trivial (oq l)) ?_;(first|refine GO.ef (Ef.call (Gu (L:=[]) _ [] (dA True) ad cap l hl (fun a ha=>IH a (h.1 a ha).2.2)) rfl cN) ae ?_);rintro _ _⟨_,⟨rfl,rfl⟩,hL⟩;simp only[ao,al] at hL;subst hL;refine JM ?_;intros;exact KX.en ⟨rfl,rfl⟩
def uF(x:ItG)(h:ItGood x):fS 200 [] dD noP (dA True) x:=by
 intro L;obtain⟨h1,h2,h3⟩:=h.num;refine Tri.bd (args:=[aO (dD x)]) ?_;cases hx:x.obj with
 | true =>
  obtain⟨f1,f2⟩:=h1 hx;have e:dD x=[.string x.name,.bool true,.bool x.mixed,.bool x.coin,ac x.wear,ac x.bind,ac x.level]:=by unfold dD;rw[hx]
  rw[e];refine JM ?_;intros;exact KX.d7 an Ent.drop ⟨by rw[aU h3];rfl,rfl⟩
 | false =>
  have e:dD x=[.string x.name,.bool false,.bool x.mixed,.bool x.coin,ac x.wear,ac x.bind,ac x.level]:=by unfold dD;rw[hx]
  rw[e];refine JM ?_;intros;exact KX.d7 an Ent.drop ⟨by rw[aU h3];rfl,rfl⟩
def uw{L:LH}(n:Nat)(r:RuV)(h:RuGood n r.m):Tri ai 202 #[aO (cX r)] L (rtQ (.bool true) L):=by
 obtain⟨⟨h1,h2⟩,⟨h3,h4⟩,⟨h5,h6⟩,h7,h8⟩:=h.num;change 0≤r.level at h1;change r.level≤100 at h2;change 0≤r.time at h3;change r.time≤1000000 at h4;change 1≤r.of_ at h5;change r.of_≤1000000 at h6;change 1≤r.chance at h7;change r.chance≤r.of_ at h8;refine Tri.bd ?_;refine JM ?_;intros;exact KX.d7 an Ent.drop ⟨by rw[aU h8];rfl,rfl⟩
abbrev untC(b3:Nat):HP:=obj b3 tSrt [.func (.func 197) #[] #[]]
def Jp(b3 n:Nat)(r:RuV)(h:RuGood n r.m):fS 201 [ay b3] cX ruP (untC b3) r:=by
 intro L;have hl:=h.lim;change r.take.l.length+r.give.l.length≤64∧r.take.l.length+r.back.l.length≤64 at hl;refine Tri.bd (args:=[aO (cX r),ay b3]) ?_;refine G.ent (Ent.d7 xh) ?_;refine JM ?_;intros;refine GO.ent (Ent.at (A:=amS r.take) (Ent.refl _)) ?_;refine GO.ef (Ef.d8 rfl rfl (tU n r.take.ad r.take.cap r.take.l ab h.take)) ae ?_;rintro _ _⟨rfl,rfl⟩;refine JM ?_;intros;refine GO.ent (Ent.at (A:=amS r.give) (Ent.refl _)) ?_;refine GO.ef (Ef.d8 rfl rfl (tU n r.give.ad r.give.cap r.give.l ab h.give)) ae ?_;rintro _ _⟨rfl,rfl⟩;refine JM ?_;intros;refine GO.ent (Ent.at (A:=amS r.back) (Ent.refl _)) ?_;refine GO.ef (Ef.d8 rfl rfl (tU n r.back.ad r.back.cap r.back.l ab h.back)) ae ?_;rintro _ _⟨rfl,rfl⟩;refine JM ?_;intros;refine GO.cr (uw n r h) ?_;refine JM ?_;intros;exact KX.en ⟨rfl,rfl⟩
def Ij(n:Nat)(r:RwV)(h:RwGood n r.m):fS 252 [] gj rwP (dA True) r:=by
 intro L;obtain⟨h1,h2⟩:=h.num;change 1≤r.weight at h1;change r.weight≤1099511627776 at h2;refine Tri.bd (args:=[aO (gj r)]) ?_;refine JM ?_;intros;exact KX.d7 an Ent.drop ⟨by rw[aU h2];rfl,rfl⟩
def rn{L:LH}(n:Nat)(t:TbV)(h:TbGood n t.m):Tri ai 204 #[aO (eG t)] (tbP t::L) (rtQ (.bool true) (tbP t::L)):=by
 obtain⟨⟨r1,r2⟩,r3⟩:=qb h;refine Tri.bd ?_;refine G.ent rV ?_;refine JM ?_;intros;refine GO.ent (Ent.pure trivial (Ent.refl _)) ?_;(first|refine GO.ef (Ef.call (qD (L:=[]) _ [] (dA True) t.ad t.cap t.rows r2 (fun r hr=>Ij n r (r3 r hr))) rfl cN) ae ?_);rintro _ _⟨_,⟨rfl,rfl⟩,hL⟩;simp only[ao,al] at hL;subst hL;refine JM ?_;intros;exact KX.en ⟨rfl,rfl⟩
def IG(b3 n:Nat)(r:RwV)(hl:r.give.l.length≤64)(h:ly n r.give.l):fS 205 [ay b3] gj rwP (untC b3) r:=by
 intro L;refine Tri.bd (args:=[aO (gj r),ay b3]) ?_;refine JM ?_;intros;refine GO.ent (Ent.at (A:=amS r.give) (Ent.refl _)) ?_;refine GO.ef (Ef.d8 rfl rfl (tU n r.give.ad r.give.cap r.give.l hl h)) ae ?_;rintro _ _⟨rfl,rfl⟩;refine JM ?_;intros;exact KX.en ⟨rfl,rfl⟩
def Jo(b3 n:Nat)(t:TbV)(hB:t.B)(h:TbGood n t.m):fS 203 [ay b3] eG tbP (untC b3) t:=by
 intro L;obtain⟨⟨r1,r2⟩,r3⟩:=qb h;refine Tri.bd (args:=[aO (eG t),ay b3]) ?_;refine JM ?_;intros;(first|refine GO.ef (Ef.call (rn (L:=[]) n t h) rfl cN) ae ?_);rintro _ _⟨_,⟨rfl,rfl⟩,hL⟩;simp only[ao,al] at hL;subst hL;refine GO.ent rV ?_;refine JM ?_;intros;(first|refine GO.ef (Ef.call (qD (L:=[]) _ [ay b3] (untC b3) t.ad t.cap t.rows r2 (fun r hr=>IG b3 n r (hB.2 r hr) (r3 r hr).give)) rfl cN) ae ?_);rintro _ _⟨_,⟨rfl,rfl⟩,hL⟩;simp only[ao,al] at hL;subst hL;refine JM ?_;intros;exact KX.en ⟨rfl,rfl⟩
def Im(b:Int×Int)(h:(0≤b.1∧b.1≤1099511627776)∧0≤b.2∧b.2≤10000):fS 254 [] cA noP (dA True) b:=by
 intro L;obtain⟨⟨h1,h2⟩,h3,h4⟩:=h;refine Tri.bd (args:=[aO (cA b)]) ?_;refine JM ?_;intros;exact KX.d7 an Ent.drop ⟨by rw[aU h4];rfl,rfl⟩
def vZ(t:TxV)(h:TxGood t.m):fS 206 [] eD txP (dA True) t:=by
 intro L;obtain⟨h1,h2⟩:=h.brs;change 0<t.brs.length at h1;change t.brs.length≤16 at h2;refine Tri.bd (args:=[aO (eD t)]) ?_;refine G.ent (L':=isl cA 2 t.ad t.brs::dA True::L) (by unfold txP;exact ag) ?_;refine JM ?_;intros;refine GO.ent (oq t.brs) ?_;(first|refine GO.ef (Ef.call (Gt (L:=[]) _ [] (dA True) t.ad t.cap t.brs ab (fun b hb=>Im b (h.num b hb))) rfl cN) ae ?_);rintro _ _⟨_,⟨rfl,rfl⟩,hL⟩;simp only[ao,al] at hL;subst hL;refine JM ?_;intros;refine KX.d7 an ?_ ⟨rfl,rfl⟩;unfold txP;exact ag
def Ee{L:LH}(c:CatV)(hB:c.B)(h:CatGood c.m):Tri ai 115 #[aO c.cells] (catS c (bZ::L)) (rtQ (.bool true) (catS c (bZ::L))):=by
 obtain⟨l1,l2,l3,l4⟩:=lens h;refine Tri.bd ?_;simp only[catS,CatV.cells];refine JM ?_;intros;rename_i b1 b3;refine GO.ent (Ent.pure trivial (oq c.items)) ?_;(first|refine GO.ef (Ef.call (qE (L:=[]) _ [] (dA True) c.iad c.icap c.items l1 (fun x hx=>uF x (h.it x hx))) rfl cN) ae ?_);rintro _ _⟨_,⟨rfl,rfl⟩,hL⟩;simp only[ao,al] at hL;subst hL;refine JM ?_;intros;(first|refine GO.ef (Ef.call (nz (L:=[]) _ [ay b3] (untC b3) c.rad c.rcap c.rules l2 (fun r hr=>Jp b3 _ r (pD h r hr))) rfl cN) ae ?_);rintro _ _⟨_,⟨rfl,rfl⟩,hL⟩;simp only[ao,al] at hL;subst hL;refine JM ?_;intros;(first|refine GO.ef (Ef.call (ny (L:=[]) _ [ay b3] (untC b3) c.tad c.tcap c.tables ab (fun r hr=>Jo b3 _ r (hB.tb r hr) (pC h r hr))) rfl cN) ae ?_);rintro _ _⟨_,⟨rfl,rfl⟩,hL⟩;simp only[ao,al] at hL;subst hL;refine JM ?_;intros;(first|refine GO.ef (Ef.call (nx (L:=[]) _ [] (dA True) c.xad c.xcap c.taxes ab (fun r hr=>vZ r (pB h r hr))) rfl cN) ae ?_);rintro _ _⟨_,⟨rfl,rfl⟩,hL⟩;simp only[ao,al] at hL;subst hL;refine JM ?_;intros;exact KX.en ⟨rfl,rfl⟩
def vO{L:LH}(c:CatV)(hB:c.B)(h:CatGood c.m):Tri ai 62 #[aO c.cells] (catP c::bZ::L) (rtQ (ac 0) (catP c::bZ::L)):=by
 refine Tri.bd ?_;refine G.ent (L':=catS c (bZ::catP c::L)) (catS_open.trans (by simp only[catS];exact ag)) ?_;simp only[CatV.cells];refine JM ?_;intros;rename_i b1;refine GO.ent (L':=catS c (bZ::obj b1 tCat c.cells::catP c::L)) (by simp only[catS,CatV.cells];exact ag) ?_;refine GO.cr (sS c h) ?_;simp only[catS,CatV.cells];refine JM ?_;intros;refine GO.ent (L':=catS c (bZ::obj b1 tCat c.cells::catP c::L)) (by simp only[catS,CatV.cells];exact ag) ?_;refine GO.cr (Bo c h) ?_;simp only[catS,CatV.cells];refine JM ?_;intros;refine GO.ent (L':=catS c (bZ::obj b1 tCat c.cells::catP c::L)) (by simp only[catS,CatV.cells];exact ag) ?_;refine GO.cr (uA c h) ?_;simp only[catS,CatV.cells];refine JM ?_;intros;refine GO.ent (L':=catS c (bZ::obj b1 tCat c.cells::catP c::L)) (by simp only[catS,CatV.cells];exact ag) ?_;refine GO.cr (vX c hB h) ?_;simp only[catS,CatV.cells];refine JM ?_;intros;refine GO.ent (L':=catS c (bZ::obj b1 tCat c.cells::catP c::L)) (by simp only[catS,CatV.cells];exact ag) ?_;refine GO.cr (Ee c hB h) ?_;simp only[catS,CatV.cells];refine JM ?_;intros;refine KX.d7 an ?_ ⟨rfl,rfl⟩;exact ag
end
end Go.Proofs.YtommnllbflbdmaaGreatDoor
namespace Go.V
def Ent.g9{L R:LH}{α:Type}{enc:α→LV}{sz b T:Nat}{cs:LV}[h:PickObj L b T cs R](xs:List α)(hc:cs=xs.flatMap enc)(hs:∀x∈xs,(enc x).length=sz)(hm:xs.length≤9223372036854775807):Ent L (isl enc sz (some ⟨b,0,none⟩) xs::R) :=
 (Ent.perm h.perm).trans ((Ent.f7 hc rfl hs hm).trans Ent.freezeSl)
end Go.V
namespace Go.Proofs.YtommnllbflbdmaaGreatDoor
open Go.V
attribute [local irreducible] G GO GP GPW GPK Ev Ef EfR Ent CB GB V.Enters
def mW{r:RuV}{L:LH}:Ent (amS r.take::amS r.give::amS r.back::L) (ruP r::L):=(Ent.d7 (Ent.e9 (jW _) (jW _))).trans (Ent.e9 (jW _) ((jW _).and (jW _)))
def it16:List ItG:=[⟨⟨#[103,111,108,100]⟩,false,true,true,0,0,0⟩,⟨⟨#[111,114,101]⟩,false,false,false,0,0,0⟩,⟨⟨#[99,111,97,108]⟩,false,true,false,0,0,0⟩,⟨⟨#[98,97,114]⟩,false,false,false,0,0,0⟩,⟨⟨#[115,119,111,114,100]⟩,true,false,false,20,2,3⟩]
def cat16:CatM:=⟨it16,[⟨⟨#[100,105,103]⟩,true,0,0,1,1,[],[(1,4),(2,3)],[]⟩,⟨⟨#[115,109,101,108,116]⟩,false,2,5,2,3,[(1,2),(2,1)],[(3,1)],[(1,1)]⟩,⟨⟨#[102,111,114,103,101]⟩,false,3,10,1,1,[(3,3)],[(4,1)],[]⟩,⟨⟨#[115,99,114,97,112]⟩,false,0,1,1,1,[(4,1)],[(3,3)],[]⟩,⟨⟨#[115,101,108,108]⟩,false,0,1,1,1,[(3,1)],[(0,7)],[]⟩],[⟨⟨#[99,104,101,115,116]⟩,[⟨5,[(0,10)]⟩,⟨1,[(3,2)]⟩]⟩],[⟨⟨#[115,97,108,101]⟩,[(0,500),(100,1000)]⟩]⟩
abbrev tA(bi g0 t1 g1 k1 t2 g2 t3 g3 t4 g4 br w0 w1 bw bt bb bx:Nat):RuV:=⟨⟨#[100,105,103]⟩,true,0,0,1,1,⟨[],none,0⟩,⟨[(1,4),(2,3)],some ⟨g0,0,none⟩,2⟩,⟨[],none,0⟩⟩
abbrev tz(bi g0 t1 g1 k1 t2 g2 t3 g3 t4 g4 br w0 w1 bw bt bb bx:Nat):RuV:=⟨⟨#[115,109,101,108,116]⟩,false,2,5,2,3,⟨[(1,2),(2,1)],some ⟨t1,0,none⟩,2⟩,⟨[(3,1)],some ⟨g1,0,none⟩,1⟩,⟨[(1,1)],some ⟨k1,0,none⟩,1⟩⟩
abbrev tw(bi g0 t1 g1 k1 t2 g2 t3 g3 t4 g4 br w0 w1 bw bt bb bx:Nat):RuV:=⟨⟨#[102,111,114,103,101]⟩,false,3,10,1,1,⟨[(3,3)],some ⟨t2,0,none⟩,1⟩,⟨[(4,1)],some ⟨g2,0,none⟩,1⟩,⟨[],none,0⟩⟩
abbrev tv(bi g0 t1 g1 k1 t2 g2 t3 g3 t4 g4 br w0 w1 bw bt bb bx:Nat):RuV:=⟨⟨#[115,99,114,97,112]⟩,false,0,1,1,1,⟨[(4,1)],some ⟨t3,0,none⟩,1⟩,⟨[(3,3)],some ⟨g3,0,none⟩,1⟩,⟨[],none,0⟩⟩
abbrev tu(bi g0 t1 g1 k1 t2 g2 t3 g3 t4 g4 br w0 w1 bw bt bb bx:Nat):RuV:=⟨⟨#[115,101,108,108]⟩,false,0,1,1,1,⟨[(3,1)],some ⟨t4,0,none⟩,1⟩,⟨[(0,7)],some ⟨g4,0,none⟩,1⟩,⟨[],none,0⟩⟩
abbrev tr(bi g0 t1 g1 k1 t2 g2 t3 g3 t4 g4 br w0 w1 bw bt bb bx:Nat):RwV:=⟨5,⟨[(0,10)],some ⟨w0,0,none⟩,1⟩⟩
abbrev tq(bi g0 t1 g1 k1 t2 g2 t3 g3 t4 g4 br w0 w1 bw bt bb bx:Nat):RwV:=⟨1,⟨[(3,2)],some ⟨w1,0,none⟩,1⟩⟩
abbrev tb16(bi g0 t1 g1 k1 t2 g2 t3 g3 t4 g4 br w0 w1 bw bt bb bx:Nat):TbV:=⟨⟨#[99,104,101,115,116]⟩,[tr bi g0 t1 g1 k1 t2 g2 t3 g3 t4 g4 br w0 w1 bw bt bb bx,tq bi g0 t1 g1 k1 t2 g2 t3 g3 t4 g4 br w0 w1 bw bt bb bx],some ⟨bw,0,none⟩,2⟩
abbrev tx16(bi g0 t1 g1 k1 t2 g2 t3 g3 t4 g4 br w0 w1 bw bt bb bx:Nat):TxV:=⟨⟨#[115,97,108,101]⟩,[(0,500),(100,1000)],some ⟨bb,0,none⟩,2⟩
def iF(bi g0 t1 g1 k1 t2 g2 t3 g3 t4 g4 br w0 w1 bw bt bb bx:Nat):CatV:=⟨it16,some ⟨bi,0,none⟩,5,[tA bi g0 t1 g1 k1 t2 g2 t3 g3 t4 g4 br w0 w1 bw bt bb bx,tz bi g0 t1 g1 k1 t2 g2 t3 g3 t4 g4 br w0 w1 bw bt bb bx,tw bi g0 t1 g1 k1 t2 g2 t3 g3 t4 g4 br w0 w1 bw bt bb bx,tv bi g0 t1 g1 k1 t2 g2 t3 g3 t4 g4 br w0 w1 bw bt bb bx,tu bi g0 t1 g1 k1 t2 g2 t3 g3 t4 g4 br w0 w1 bw bt bb bx],some ⟨br,0,none⟩,5,[tb16 bi g0 t1 g1 k1 t2 g2 t3 g3 t4 g4 br w0 w1 bw bt bb bx],some ⟨bt,0,none⟩,1,[tx16 bi g0 t1 g1 k1 t2 g2 t3 g3 t4 g4 br w0 w1 bw bt bb bx],some ⟨bx,0,none⟩,1⟩
def HM(bi g0 t1 g1 k1 t2 g2 t3 g3 t4 g4 br w0 w1 bw bt bb bx:Nat):(iF bi g0 t1 g1 k1 t2 g2 t3 g3 t4 g4 br w0 w1 bw bt bb bx).m=cat16:=rfl
def HN(bi g0 t1 g1 k1 t2 g2 t3 g3 t4 g4 br w0 w1 bw bt bb bx:Nat):(iF bi g0 t1 g1 k1 t2 g2 t3 g3 t4 g4 br w0 w1 bw bt bb bx).B:=by
 refine⟨aA rfl,aA rfl,aA rfl,aA rfl,?_,?_,?_⟩
 ·intro r hr;simp only[iF,bA,aV,or_false] at hr;rcases hr with rfl|rfl|rfl|rfl|rfl<;>exact⟨aA rfl,aA rfl,aA rfl⟩
 ·intro r hr;simp only[iF,bA,aV,or_false] at hr;subst hr;refine⟨aA rfl,?_⟩;intro w hw;simp only[tb16,bA,aV,or_false] at hw;rcases hw with rfl|rfl<;>exact aA rfl
 ·intro r hr;simp only[iF,bA,aV,or_false] at hr;subst hr;exact aA rfl
def uV{L:LH}:Tri ai 36 #[] L (fun v L'=>∃c:CatV,v=aO c.cells∧(c.m=cat16∧c.B)∧L' = catP c::L):=by
 refine Tri.bd ?_;refine JM ?_;intros;rename_i b0 bi g0 t1 g1 k1 t2 g2 t3 g3 t4 g4 br w0 w1 bw bt bb bx;refine KX.d7 (vs:=[.agg (iF bi g0 t1 g1 k1 t2 g2 t3 g3 t4 g4 br w0 w1 bw bt bb bx).cells.toArray]) (ResOk.cell rfl aK ResOk.nil) ?_ ⟨iF bi g0 t1 g1 k1 t2 g2 t3 g3 t4 g4 br w0 w1 bw bt bb bx,rfl,⟨HM ..,HN ..⟩,rfl⟩;refine(Ent.g9 (b:=g0) (enc:=cA) (sz:=2) [(1,4),(2,3)] rfl (fun _ _=>rfl) (aA rfl)).trans ?_;refine(Ent.g9 (b:=t1) (enc:=cA) (sz:=2) [(1,2),(2,1)] rfl (fun _ _=>rfl) (aA rfl)).trans ?_;refine(Ent.g9 (b:=g1) (enc:=cA) (sz:=2) [(3,1)] rfl (fun _ _=>rfl) (aA rfl)).trans ?_;refine(Ent.g9 (b:=k1) (enc:=cA) (sz:=2) [(1,1)] rfl (fun _ _=>rfl) (aA rfl)).trans ?_;refine(Ent.g9 (b:=t2) (enc:=cA) (sz:=2) [(3,3)] rfl (fun _ _=>rfl) (aA rfl)).trans ?_;refine(Ent.g9 (b:=g2) (enc:=cA) (sz:=2) [(4,1)] rfl (fun _ _=>rfl) (aA rfl)).trans ?_;refine(Ent.g9 (b:=t3) (enc:=cA) (sz:=2) [(4,1)] rfl (fun _ _=>rfl) (aA rfl)).trans ?_;refine(Ent.g9 (b:=g3) (enc:=cA) (sz:=2) [(3,3)] rfl (fun _ _=>rfl) (aA rfl)).trans ?_;refine(Ent.g9 (b:=t4) (enc:=cA) (sz:=2) [(3,1)] rfl (fun _ _=>rfl) (aA rfl)).trans ?_;refine(Ent.g9 (b:=g4) (enc:=cA) (sz:=2) [(0,7)] rfl (fun _ _=>rfl) (aA rfl)).trans ?_;refine(Ent.g9 (b:=w0) (enc:=cA) (sz:=2) [(0,10)] rfl (fun _ _=>rfl) (aA rfl)).trans ?_;refine(Ent.g9 (b:=w1) (enc:=cA) (sz:=2) [(3,2)] rfl (fun _ _=>rfl) (aA rfl)).trans ?_;refine(Ent.g9 (b:=bb) (enc:=cA) (sz:=2) [(0,500),(100,1000)] rfl (fun _ _=>rfl) (aA rfl)).trans ?_;refine(Ent.g9 (b:=bi) (enc:=dD) (sz:=7) it16 rfl (fun _ _=>rfl) (aA rfl)).trans ?_;refine(Ent.g9 (b:=br) (enc:=cX) (sz:=9) [tA bi g0 t1 g1 k1 t2 g2 t3 g3 t4 g4 br w0 w1 bw bt bb bx,tz bi g0 t1 g1 k1 t2 g2 t3 g3 t4 g4 br w0 w1 bw bt bb bx,tw bi g0 t1 g1 k1 t2 g2 t3 g3 t4 g4 br w0 w1 bw bt bb bx,tv bi g0 t1 g1 k1 t2 g2 t3 g3 t4 g4 br w0 w1 bw bt bb bx,tu bi g0 t1 g1 k1 t2 g2 t3 g3 t4 g4 br w0 w1 bw bt bb bx] rfl (fun _ _=>rfl) (aA rfl)).trans ?_;refine(Ent.g9 (b:=bw) (enc:=gj) (sz:=2) [tr bi g0 t1 g1 k1 t2 g2 t3 g3 t4 g4 br w0 w1 bw bt bb bx,tq bi g0 t1 g1 k1 t2 g2 t3 g3 t4 g4 br w0 w1 bw bt bb bx] rfl (fun _ _=>rfl) (aA rfl)).trans ?_;refine(Ent.g9 (b:=bt) (enc:=eG) (sz:=2) [tb16 bi g0 t1 g1 k1 t2 g2 t3 g3 t4 g4 br w0 w1 bw bt bb bx] rfl (fun _ _=>rfl) (aA rfl)).trans ?_;refine(Ent.g9 (b:=bx) (enc:=eD) (sz:=2) [tx16 bi g0 t1 g1 k1 t2 g2 t3 g3 t4 g4 br w0 w1 bw bt bb bx] rfl (fun _ _=>rfl) (aA rfl)).trans ?_;refine(Ent.e8 cA 2 none).trans ?_;refine(Ent.at (A:=isl cA 2 (some ⟨g4,0,none⟩) [(0,7)]) (Ent.refl _)).trans ?_;refine(Ent.at (A:=isl cA 2 (some ⟨t4,0,none⟩) [(3,1)]) (Ent.refl _)).trans ?_;refine(mW (r:=tu bi g0 t1 g1 k1 t2 g2 t3 g3 t4 g4 br w0 w1 bw bt bb bx)).trans ?_;refine(Ent.f8 (f:=ruP) ju).trans ?_;refine(Ent.e8 cA 2 none).trans ?_;refine(Ent.at (A:=isl cA 2 (some ⟨g3,0,none⟩) [(3,3)]) (Ent.refl _)).trans ?_;refine(Ent.at (A:=isl cA 2 (some ⟨t3,0,none⟩) [(4,1)]) (Ent.refl _)).trans ?_;refine(mW (r:=tv bi g0 t1 g1 k1 t2 g2 t3 g3 t4 g4 br w0 w1 bw bt bb bx)).trans ?_;refine(Ent.g8 (f:=ruP) ju).trans ?_;refine(Ent.e8 cA 2 none).trans ?_;refine(Ent.at (A:=isl cA 2 (some ⟨g2,0,none⟩) [(4,1)]) (Ent.refl _)).trans ?_;refine(Ent.at (A:=isl cA 2 (some ⟨t2,0,none⟩) [(3,3)]) (Ent.refl _)).trans ?_;refine(mW (r:=tw bi g0 t1 g1 k1 t2 g2 t3 g3 t4 g4 br w0 w1 bw bt bb bx)).trans ?_;refine(Ent.g8 (f:=ruP) ju).trans ?_;refine(Ent.at (A:=isl cA 2 (some ⟨k1,0,none⟩) [(1,1)]) (Ent.refl _)).trans ?_;refine(Ent.at (A:=isl cA 2 (some ⟨g1,0,none⟩) [(3,1)]) (Ent.refl _)).trans ?_;refine(Ent.at (A:=isl cA 2 (some ⟨t1,0,none⟩) [(1,2),(2,1)]) (Ent.refl _)).trans ?_;refine(mW (r:=tz bi g0 t1 g1 k1 t2 g2 t3 g3 t4 g4 br w0 w1 bw bt bb bx)).trans ?_;refine(Ent.g8 (f:=ruP) ju).trans ?_;refine(Ent.e8 cA 2 none).trans ?_;refine(Ent.at (A:=isl cA 2 (some ⟨g0,0,none⟩) [(1,4),(2,3)]) (Ent.refl _)).trans ?_;refine(Ent.e8 cA 2 none).trans ?_;refine(mW (r:=tA bi g0 t1 g1 k1 t2 g2 t3 g3 t4 g4 br w0 w1 bw bt bb bx)).trans ?_;refine(Ent.g8 (f:=ruP) ju).trans ?_;refine(Ent.at (A:=isl cX 9 (some ⟨br,0,none⟩) [tA bi g0 t1 g1 k1 t2 g2 t3 g3 t4 g4 br w0 w1 bw bt bb bx,tz bi g0 t1 g1 k1 t2 g2 t3 g3 t4 g4 br w0 w1 bw bt bb bx,tw bi g0 t1 g1 k1 t2 g2 t3 g3 t4 g4 br w0 w1 bw bt bb bx,tv bi g0 t1 g1 k1 t2 g2 t3 g3 t4 g4 br w0 w1 bw bt bb bx,tu bi g0 t1 g1 k1 t2 g2 t3 g3 t4 g4 br w0 w1 bw bt bb bx]) (Ent.e9 (bM _ _ _ _) (cQ ju))).trans ?_;refine(Ent.at (A:=isl cA 2 (some ⟨w1,0,none⟩) [(3,2)]) (Ent.refl _)).trans ?_;refine(Ent.f8 (f:=rwP) (x:=tq bi g0 t1 g1 k1 t2 g2 t3 g3 t4 g4 br w0 w1 bw bt bb bx) oJ).trans ?_;refine(Ent.at (A:=isl cA 2 (some ⟨w0,0,none⟩) [(0,10)]) (Ent.refl _)).trans ?_;refine(Ent.g8 (f:=rwP) (x:=tr bi g0 t1 g1 k1 t2 g2 t3 g3 t4 g4 br w0 w1 bw bt bb bx) oJ).trans ?_;refine(Ent.at (A:=isl gj 2 (some ⟨bw,0,none⟩) [tr bi g0 t1 g1 k1 t2 g2 t3 g3 t4 g4 br w0 w1 bw bt bb bx,tq bi g0 t1 g1 k1 t2 g2 t3 g3 t4 g4 br w0 w1 bw bt bb bx]) (Ent.e9 (bM _ _ _ _) (cQ oJ))).trans ?_;refine(Ent.f8 (f:=tbP) (x:=tb16 bi g0 t1 g1 k1 t2 g2 t3 g3 t4 g4 br w0 w1 bw bt bb bx) kw).trans ?_;refine(Ent.at (A:=isl eG 2 (some ⟨bt,0,none⟩) [tb16 bi g0 t1 g1 k1 t2 g2 t3 g3 t4 g4 br w0 w1 bw bt bb bx]) (Ent.e9 (bM _ _ _ _) (cQ kw))).trans ?_;refine(Ent.at (A:=isl cA 2 (some ⟨bb,0,none⟩) [(0,500),(100,1000)]) (Ent.refl _)).trans ?_;refine(Ent.f8 (f:=txP) (x:=tx16 bi g0 t1 g1 k1 t2 g2 t3 g3 t4 g4 br w0 w1 bw bt bb bx) lP).trans ?_;refine(Ent.at (A:=isl eD 2 (some ⟨bx,0,none⟩) [tx16 bi g0 t1 g1 k1 t2 g2 t3 g3 t4 g4 br w0 w1 bw bt bb bx]) (Ent.e9 (bM _ _ _ _) (cQ lP))).trans ?_;refine(Ent.swap.trans (Ent.e9 (nk (iF bi g0 t1 g1 k1 t2 g2 t3 g3 t4 g4 br w0 w1 bw bt bb bx)) (nj (iF bi g0 t1 g1 k1 t2 g2 t3 g3 t4 g4 br w0 w1 bw bt bb bx)))).trans ?_;refine(Ent.swap.trans (Ent.e9 (qN (iF bi g0 t1 g1 k1 t2 g2 t3 g3 t4 g4 br w0 w1 bw bt bb bx)) ((nk (iF bi g0 t1 g1 k1 t2 g2 t3 g3 t4 g4 br w0 w1 bw bt bb bx)).and (nj (iF bi g0 t1 g1 k1 t2 g2 t3 g3 t4 g4 br w0 w1 bw bt bb bx))))).trans ?_;refine(Ent.swap.trans (Ent.e9 (yY (iF bi g0 t1 g1 k1 t2 g2 t3 g3 t4 g4 br w0 w1 bw bt bb bx)) ((qN (iF bi g0 t1 g1 k1 t2 g2 t3 g3 t4 g4 br w0 w1 bw bt bb bx)).and ((nk (iF bi g0 t1 g1 k1 t2 g2 t3 g3 t4 g4 br w0 w1 bw bt bb bx)).and (nj (iF bi g0 t1 g1 k1 t2 g2 t3 g3 t4 g4 br w0 w1 bw bt bb bx)))))).trans ?_;exact Ent.d7 Ent.drop
def mo{s:ByteArray}(h:(1≤s.size∧s.size≤16)∧ic s 0=3∧∀i:Nat,i<s.size→ic s i=3∨ic s i=4∨ic s i=5):IsWord s:=⟨h.1,h.2.1,h.2.2⟩
def pA{n:Nat}{l:List (Int×Int)}(h:(∀a∈l,0≤a.1∧a.1<n∧1≤a.2∧a.2≤1099511627776)∧l.Pairwise (fun a b=>a.1<b.1)):ly n l:=h
def cat16_good:CatGood cat16:=by
 refine⟨by decide,by decide,by decide,by decide,?_,?_,?_,?_,by decide,by decide,by decide,by decide⟩
 ·intro x hx;simp only[cat16,it16,bA,aV,or_false] at hx;rcases hx with rfl|rfl|rfl|rfl|rfl<;>exact⟨mo (by decide +kernel),by decide,by decide⟩
 ·intro r hr;simp only[cat16,bA,aV,or_false] at hr;rcases hr with rfl|rfl|rfl|rfl|rfl<;>exact⟨mo (by decide +kernel),by decide,pA ae,pA ae,pA ae,by decide,by decide,by decide⟩
 ·intro t ht;simp only[cat16,bA,aV,or_false] at ht;subst ht;refine⟨mo (by decide +kernel),by decide,?_⟩;intro r hr;simp only[bA,aV,or_false] at hr;rcases hr with rfl|rfl<;>exact⟨by decide,pA ae⟩
 ·intro t ht;simp only[cat16,bA,aV,or_false] at ht;subst ht;refine⟨mo (by decide +kernel),by decide,by decide,?_,by decide⟩;intro i hi;have a0:i=0:=by simp only[bD,cB] at hi;omega
  subst a0;decide
def sO:cat16.Ok:=⟨fun r hr a ha=>⟨by have:=(cat16_good.ru r hr).take.1 a ha;omega,((cat16_good.ru r hr).take.1 a ha).2.2.2⟩,fun r hr a ha=>⟨by have:=(cat16_good.ru r hr).give.1 a ha;omega,((cat16_good.ru r hr).give.1 a ha).2.2.2⟩,fun r hr a ha=>⟨by have:=(cat16_good.ru r hr).back.1 a ha;omega,((cat16_good.ru r hr).back.1 a ha).2.2.2⟩⟩
