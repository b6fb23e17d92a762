/- Lemmas. -/
import Derived.Test.YtommnllbflbdmaaGreatDoorLao
set_option linter.all false
set_option maxHeartbeats 2000000
namespace Go.Proofs.YtommnllbflbdmaaGreatDoor
section
open Go.V
attribute [local irreducible] G GO GP GPW GPK Ev Ef EfR Ent CB GB Enters
section plain
variable {κ α:Type}[DecidableEq κ]
theorem qU(p:κ×α)(l:List (κ×α))(k:κ):glk (p::l) k=if k=p.1 then some p.2 else glk l k:=by
 obtain⟨q,a⟩:=p;unfold glk;rw[df];by_cases h:k=q
 ·subst h;simp
 ·have hb:(k == q)=false:=by simpa using h
  simp only[hb,if_neg h]
theorem jY(m:List (κ×α))(k q:κ)(a:α):glk (gins m k a) q=if q=k then some a else glk m q:=im
theorem EA(m:List (κ×α))(k q:κ):glk (gera m k) q=if q=k then none else glk m q:=yZ
theorem ww{l:List (κ×α)}{k:κ}(h:k∉l.map (·.1)):glk l k=none:=by
 induction l with
 | nil=>rfl
 | cons p l ih =>
  simp only[bO,bj,not_or] at h;rw[qU,if_neg h.1,ih h.2]
theorem wv{l l' : List (κ×α)}(hp:l.Perm l')(hn:(l'.map (·.1)).Nodup)(k:κ):glk l k=glk l' k:=by
 have hn2:(l.map (·.1)).Nodup:=(hp.map _).nodup_iff.2 hn;cases h:glk l k with
 | some a=>exact(kO hn (hp.mem_iff.1 (jp h))).symm
 | none =>
  cases h2:glk l' k with
  | none=>rfl
  | some a =>
   have h3:glk l k=some a:=kO hn2 (hp.mem_iff.2 (jp h2));rw[h] at h3;cases h3
def km(m n:List (κ×α)):List (κ×α):=n.foldl (fun m p=>gins m p.1 p.2) m
theorem qo(k:κ):∀(n m:List (κ×α)),(n.map (·.1)).Nodup→glk (km m n) k=(glk n k).or (glk m k)
 | [],m,_=>rfl
 | p::n,m,hn=>by
  simp only[bO,dM] at hn;have ih:=qo k n (gins m p.1 p.2) hn.2;have e:km m (p::n)=km (gins m p.1 p.2) n:=rfl;rw[e,ih,qU,jY];by_cases h:k=p.1
  ·rw[if_pos h,if_pos h,ww (h▸hn.1)];rfl
  ·rw[if_neg h,if_neg h]
end plain
def putS(m:List ((Int×Int)×Stk))(p:(Int×Int)×Stk):List ((Int×Int)×Stk):=if p.2.lots.length=0 then gera m p.1 else gins m p.1 p.2
def ir(m n:List ((Int×Int)×Stk)):List ((Int×Int)×Stk):=n.foldl putS m
theorem rF(m:List ((Int×Int)×Stk))(p:(Int×Int)×Stk)(k:Int×Int):(fU (putS m p) k).lots=if k=p.1 then p.2.lots else(fU m k).lots:=by
 unfold fU putS;by_cases h0:p.2.lots.length=0
 ·rw[if_pos h0,EA];by_cases h:k=p.1
  ·rw[if_pos h,if_pos h,aW h0];rfl
  ·rw[if_neg h,if_neg h]
 ·rw[if_neg h0,jY];by_cases h:k=p.1
  ·rw[if_pos h,if_pos h];rfl
  ·rw[if_neg h,if_neg h]
theorem oE(k:Int×Int):∀(n m:List ((Int×Int)×Stk)),(n.map (·.1)).Nodup→(fU (ir m n) k).lots=((glk n k).getD (fU m k)).lots
 | [],m,_=>rfl
 | p::n,m,hn=>by
  simp only[bO,dM] at hn;have ih:=oE k n (putS m p) hn.2;have e:ir m (p::n)=ir (putS m p) n:=rfl;rw[e,ih,qU];by_cases h:k=p.1
  ·rw[if_pos h,ww (h▸hn.1)];have h2:=rF m p k;rw[if_pos h] at h2;exact h2
  ·rw[if_neg h];cases glk n k with
   | some s=>rfl
   | none =>
    have h2:=rF m p k;rw[if_neg h] at h2;exact h2
theorem Eh{m:List ((Int×Int)×Stk)}{p q:(Int×Int)×Stk}(h:q∈putS m p):q∈m∨(q=p∧p.2.lots≠[]):=by
 unfold putS at h;split at h
 ·exact .inl (List.mem_filter.1 h).1
 ·rename_i h0;rcases List.mem_cons.1 (wx q h) with h1|h1
  ·exact .inr ⟨h1,fun h=>h0 (by rw[h];rfl)⟩
  ·exact .inl h1
theorem nJ{q:(Int×Int)×Stk}:∀{n m:List ((Int×Int)×Stk)},q∈ir m n→q∈m∨(q∈n∧q.2.lots≠[])
 | [],m,h=>.inl h
 | p::n,m,h=>by
  rcases nJ (n:=n) (m:=putS m p) h with h1|h1
  ·rcases Eh h1 with h2|h2
   ·exact .inl h2
   ·exact .inr ⟨by rw[h2.1];exact aw ..,by rw[h2.1];exact h2.2⟩
  ·exact .inr ⟨av _ h1.1,h1.2⟩
theorem BP(d s:Nat)(m n:List (Int×Int)) :
  Tri ah 65 #[.map (some d),.map (some s)] [gmap kvI encN d m,gmap kvI encN s n] (fun _ L'=>∃m',(∀k,glk m' k=(glk n k).or (glk m k))∧L' = [gmap kvI encN d m']):=by
 refine Tri.body (args:=[.map (some d),.map (some s)]) 16 en65 Tryz.func65 rfl rfl rfl (by simp) ?_;refine G.ent Ent.swap ?_;refine G.f7 (nV (b:=s) (kv:=kvI) (enc:=encN) (m:=n)) ?_;intro hn;repeat first|refine aa ?_|intro
 refine GO.ef (Ef.l7 rfl) ae ?_;rintro _ _⟨r,rfl,rfl⟩;repeat first|refine aa ?_|intro
 refine G.loop (α:=List (Int×Int)) (fun z=>z.length≤n.length) (fun z=>[(0,.map (some d)),(7,au r)]) (fun z=>[jx kvI encN s n r z,gmap kvI encN d (km m z)]) (fun z=>n.length - z.length) [] (ao _) aj (Ent.refl _) ?_;intro z hz;repeat first|refine aa ?_|intro
 refine GO.ef (Ef.l9 rfl) ae ?_;rintro _ _ (⟨rfl,rfl,hp⟩|⟨p,rfl,rfl,hpm,hpn,hl⟩)
 ·repeat first|refine aa ?_|intro
  refine KX.e8 ai Ent.drop ⟨km m z,fun k=>?_,rfl⟩;rw[qo k z m ((hp.map _).nodup_iff.2 hn),wv hp hn]
 repeat first|refine aa ?_|intro
 refine GO.ev (Ev.t8 (done:=z) rfl rfl) ae ?_;repeat first|refine aa ?_|intro
 refine GO.efu (Ef.f8 (enc:=encN) (e:=p.2) rfl rfl rfl rfl) ?_;rintro _ _ rfl;repeat first|refine aa ?_|intro
 refine⟨z++[p],by simp;omega,by simp;omega,aj,?_⟩;rw[show km m (z++[p])=gins (km m z) p.1 p.2 by simp[km]];exact ag
theorem sy(d s:Nat)(m:List (Int×Stk)) :
  Tri ah 66 #[.map (some d),.map (some s)] [gmap kvI Stk.v d m,gmap kvI Stk.v s []] (fun _ L'=>L' = [gmap kvI Stk.v d m]):=by
 refine Tri.body (args:=[.map (some d),.map (some s)]) 16 en66 Tryz.func66 rfl rfl rfl (by simp) ?_;refine G.ent Ent.swap ?_;repeat first|refine aa ?_|intro
 refine GO.ef (Ef.l7 rfl) ae ?_;rintro _ _⟨r,rfl,rfl⟩;repeat first|refine aa ?_|intro
 refine G.e8 1 (GR.step ?_);repeat first|refine aa ?_|intro
 refine GO.ef (Ef.l9 rfl) ae ?_;rintro _ _ (⟨rfl,rfl,hp⟩|⟨p,rfl,rfl,hpm,hpn,hl⟩)
 ·repeat first|refine aa ?_|intro
  exact KX.e8 ai Ent.drop rfl
 ·exact absurd hpm (by simp)
end
section
open Go.V
attribute [local irreducible] G GO GP GPW GPK Ev Ef EfR Ent CB GB Enters
noncomputable def lH(S:LedM)(s:StM):LedM:={ S with stk:=(tryM S s).2.stk,tot:=(tryM S s).2.tot,steps:=S.steps++[s.at (aR S)],flows:=S.flows++(tryM S s).2.flows }
open Classical in
noncomputable def kA(S:LedM)(s:StM):LedM:=if(tryM S s).1=0 then lH S s else S
noncomputable def Av(S:LedM)(s:StM):Int:=if(tryM S s).1=0 then aR S else 0
theorem FI{o p:Option Int}{d:Int}:(o.or p).getD d=o.getD (p.getD d):=by cases o<;>rfl
theorem sb{sh:Int}{nf:Nat}{mix:Int→Bool}{s:StM}(hT:∀mx,TakeC mx)(hsh:0≤sh):∀(ms:List MvM) (W:Wk),W.Ok nf→(∀m∈ms,1≤m.n∧m.n≤1099511627776)→(iu sh nf mix s W ms).1=0→(iu sh nf mix s W ms).2.Ok nf∧(iu sh nf mix s W ms).2.flows.length=W.flows.length+ms.length
 | [],W,hO,_,_=>⟨hO,rfl⟩
 | m::ms,W,hO,hn,he=>by
  have e:iu sh nf mix s W (m::ms)=if(gG sh nf mix s W m).1=0 then iu sh nf mix s (gG sh nf mix s W m).2 ms else((gG sh nf mix s W m).1,W):=rfl;rw[e] at he ⊢;by_cases h:(gG sh nf mix s W m).1=0
  ·rw[if_pos h] at he ⊢;obtain⟨h1,h2⟩:=wh hO hT (hn m (aw ..)) hsh h;obtain⟨h3,h4⟩:=sb hT hsh ms _ h1 (fun m hm=>hn m (av _ hm)) he;refine⟨h3,?_⟩;rw[h4,h2,bD];omega
  ·rw[if_neg h] at he;exact absurd he h
theorem zr{S:LedM}{s:StM}(hS:S.Ok)(hT:∀mx,TakeC mx)(he:(tryM S s).1=0):S.steps.length<65536∧lI S.cat S.now s∧(tryM S s).2.Ok S.flows.length∧(tryM S s).2.flows.length=s.moves.length:=by
 unfold tryM at he ⊢;by_cases h1:65536≤S.steps.length
 ·rw[if_pos h1] at he;exact absurd (show(4:Int)=0 from he) ac
 rw[if_neg h1] at he ⊢;by_cases h2:lI S.cat S.now s
 case neg=>rw[if_pos h2] at he;exact absurd (show(1:Int)=0 from he) ac
 rw[if_neg (fun h=>h h2)] at he ⊢
 have h3:=sb hT hS.shard.1 s.moves (wk0 S) (Cf hS) (fun m hm=>by
  have h4:=h2.2.2.2.1 m hm;unfold iz at h4;rw[fN] at h4;exact(of_decide_eq_true h4).2.1) he
 exact⟨ac,h2,h3.1,by rw[h3.2];simp[wk0]⟩
theorem Ej{S:LedM}{s:StM}(hS:S.Ok)(hT:∀mx,TakeC mx):(kA S s).Ok:=by
 unfold kA;split
 ·rename_i he;obtain⟨h1,h2,h3,h4⟩:=zr hS hT he;have hl:=h2.2.2.1.2;have hf:=hS.flows;refine⟨hS.shard,?_,?_,h3.stk,?_⟩
  ·simp only[lH,az,bD,cH];omega
  ·simp only[lH,az,bD,cH];omega
  ·intro i;have:=h3.tot i
   simp only[lH,az];rw[Int.natCast_add];exact this
 ·exact hS
abbrev AU:List Stp:=[.ev 0,.ev 1,.ev 2,.ev 3,.ev 4,.ef 5]
abbrev AT:List Stp:=[.ev 0,.ev 1,.ev 2,.ev 3,.ev 4,.ev 5,.ef 6]
abbrev xN:List Stp:=[.ev 0,.ev 1,.ev 2,.ev 3,.ev 4,.ev 5,.ev 6,.ev 7,.ef 8]
abbrev xM:List Stp:=[.ev 0,.ev 1,.ev 2,.ev 3,.ev 4,.ev 5,.ev 6,.ev 7,.ef 8]
abbrev xL:List Stp:=[.ev 0,.ev 1,.ev 2,.ev 3,.ev 4,.ev 5,.ev 6,.ev 7,.ef 8]
abbrev xK:List Stp:=[.ev 0,.ev 1,.ev 2,.ev 3,.ev 4,.ev 5,.ev 6,.ev 7,.ev 8,.ef 9,.ev 10,.ev 11,.ef 12]
abbrev xJ:List Stp:=[.ev 0,.ev 1,.ev 2,.ev 3,.ev 4,.ev 5,.ev 6,.ev 7,.ev 8,.ef 9,.ef 10,.ev 11,.ev 12,.ef 13]
theorem db{φ ψ:Prop}(k:ψ)(h:Hid ψ→φ:=by intro k;(with_reducible apply G.d8);first|refine G.d7 (N:=100) (id:=8) AU mixed ap (Hid.out k)|refine G.d7 (N:=100) (id:=9) AT mixed ap (Hid.out k)|refine G.d7 (N:=100) (id:=10) xN mixed ap (Hid.out k)|refine G.d7 (N:=100) (id:=11) xM mixed ap (Hid.out k)|refine G.d7 (N:=100) (id:=12) xL mixed ap (Hid.out k)|refine G.d7 (N:=100) (id:=13) xK mixed ap (Hid.out k)|refine G.d7 (N:=100) (id:=14) xJ mixed ap (Hid.out k)):φ:=h ⟨k⟩
theorem tJ{L:LH}(b:Nat)(S:LedM)(hS:S.Ok)(hc:S.cat.Ok)(s:StV)(hs:StIn s)(hT:∀mx,TakeC mx) :
  Tri ah 24 #[au b,.agg (aJ s).toArray] (LedR b S::stM s::stP s::L) (fun v L'=>v=.tuple #[ab (Av S s.m),ab (tryM S s.m).1]∧L' = LedR b (kA S s.m)::stM s::stP s::L):=by
 obtain⟨hsh1,hsh2⟩:=hS.shard;have hsl:=hS.steps;have hfl:=hS.flows;refine Tri.body (args:=[au b,.agg (aJ s).toArray]) 100 en24 Tryz.func24 rfl rfl rfl (by simp) ?_;refine G.e9 (f:=ledA b S) ?_;intro x;simp only[ledA,ledL,ax,aq];refine G.f9 ?_;intro hF;have hxs:x.steps.length=S.steps.length:=by rw[←hF.steps];simp
 have hxf:x.flows.length=S.flows.length:=by rw[←hF.flows];simp
 repeat first|refine aa ?_|intro _|refine db ?_
 refine GO.ent Ent.drop ?_;refine GO.ef (Ef.d7 (DZ b S hS hc x hF s hs hT) rfl) ae ?_;rintro _ _ (⟨he,rfl,rfl⟩|⟨he,bc,s',z,rfl,⟨hs',hW⟩,rfl⟩)
 ·have e1:kA S s.m=S:=if_neg he;have e2:Av S s.m=0:=if_neg he;rw[e1,e2];repeat first|refine aa ?_|intro _|refine db ?_
  exact KX.d7 ai (mf x hF) ⟨rfl,rfl⟩
 have e1:kA S s.m=lH S s.m:=if_pos he;have e2:Av S s.m=aR S:=if_pos he;obtain⟨o1,o2,o3,o4⟩:=zr hS hT he;have hml:s.m.moves.length≤64:=o2.2.2.1.2
 have hzl:z.flows.length≤64:=by
  have:=congrArg List.length hW.flows
  rw[aG] at this;omega
 have hz0:0<z.flows.length:=by
  have h1:=congrArg List.length hW.flows;rw[aG] at h1;have h2:=o2.2.2.1.1;omega
 have hsid:s'.id=aR S:=congrArg StM.id hs';rw[e1,e2,he];simp only[chL,ledL,fy,fm];repeat first|refine aa ?_|intro _|refine db ?_
 refine GO.e8 (nV (b:=z.cs) (kv:=kvP) (enc:=Stk.v) (m:=z.stk)) ?_;intro hnd;refine GO.ef (Ef.l7 rfl) ae ?_;rintro _ _⟨r,rfl,rfl⟩;repeat first|refine aa ?_|intro _|refine db ?_
 refine G.loop (α:=List ((Int×Int)×Stk)) (fun g=>g.length≤z.stk.length) (fun _=>[(0,au b),(6,au bc),(23,au r)])
  (fun g=>jx kvP Stk.v z.cs z.stk r g::gmap kvP Stk.v x.ms (ir x.stk g)::obj bc tCh (fy b s' z)::gmap kvI encN z.ct z.tot::gmap kvI Stk.v z.ci []::gmap kvI Stk.v z.cr []::osl aL 11 bz z.fad z.fcap z.flows::allP (fun p:(Int×Int)×Stk=>stkP p.2) z.stk::allP flP z.flows::obj b tLed (fm S.shard x)::gmap kvI encN x.mt x.tot::asl aJ 7 bh x.sad x.scap x.steps::asl aL 11 bz x.fad x.fcap x.flows::gmap kvI Stk.v x.mi x.imp::gmap kvI Stk.v x.mr x.ret::catP x.cat::allP (fun p:(Int×Int)×Stk=>stkP p.2) x.stk::allP bA x.steps::allP flP x.flows::allP (fun p:Int×Stk=>stkP p.2) x.imp::allP (fun p:Int×Stk=>stkP p.2) x.ret::stM s'::stP s'::stM s::stP s::L)
  (fun g=>z.stk.length - g.length) [] (ao _) aj ?_ ?_
 ·simp only[ir,List.foldl_nil];exact ag
 intro g hg;simp only[fy,fm];repeat first|refine aa ?_|intro _|refine db ?_
 refine GO.ef (Ef.l9 rfl) ae ?_;rintro _ _ (⟨rfl,rfl,hp⟩|⟨p,rfl,rfl,hpm,hpn,hl⟩)
 case inr =>
  have hpa:ir x.stk (g++[p])=putS (ir x.stk g) p:=by simp[ir]
  repeat first|refine aa ?_|intro _|refine db ?_
  refine GO.ev (Ev.t8 (done:=g) rfl rfl) ae ?_;simp only[kvP,Stk.v,bO,gm];by_cases h0:p.2.lots.length=0
  ·have hpb:putS (ir x.stk g) p=gera (ir x.stk g) p.1:=if_pos h0;repeat first|refine aa ?_|intro _|refine db ?_
   refine GPW.efu (Ef.m9 rfl rfl) ?_;rintro _ _ rfl;repeat first|refine aa ?_|intro _|refine db ?_
   refine⟨g++[p],by simp;omega,by simp;omega,aj,?_⟩;rw[hpa,hpb];exact ag
  ·have hpb:putS (ir x.stk g) p=gins (ir x.stk g) p.1 p.2:=if_neg h0;repeat first|refine aa ?_|intro _|refine db ?_
   refine GPW.efu (Ef.f8 (enc:=Stk.v) (e:=p.2) rfl rfl rfl rfl) ?_;rintro _ _ rfl;repeat first|refine aa ?_|intro _|refine db ?_
   refine⟨g++[p],by simp;omega,by simp;omega,aj,?_⟩;rw[hpa,hpb];exact ag
 repeat first|refine aa ?_|intro _|refine db ?_
 (first|refine GPW.ef (Ef.call (BP x.mt z.ct x.tot z.tot) rfl (by repeat (first|exact Ent.refl _|apply Ent.take))) ae ?_);rintro _ _⟨_,⟨m',hm',rfl⟩,hL⟩;simp only[ax,aq] at hL;subst hL;repeat first|refine aa ?_|intro _|refine db ?_
 (first|refine GPW.ef (Ef.call (sy x.mi z.ci x.imp) rfl (by repeat (first|exact Ent.refl _|apply Ent.take))) ae ?_);rintro _ _⟨_,rfl,hL⟩;simp only[ax,aq] at hL;subst hL;repeat first|refine aa ?_|intro _|refine db ?_
 (first|refine GPW.ef (Ef.call (sy x.mr z.cr x.ret) rfl (by repeat (first|exact Ent.refl _|apply Ent.take))) ae ?_);rintro _ _⟨_,rfl,hL⟩;simp only[ax,aq] at hL;subst hL;repeat first|refine aa ?_|intro _|refine db ?_
 refine GPW.ef (Ef.m6 (enc:=aL) (ys:=z.flows) rfl rfl rfl rfl rfl hz0 (fun e _=>fP e) ac ac) ae ?_;rintro _ _⟨fad2,fcap2,rfl,rfl⟩;repeat first|refine aa ?_|intro _|refine db ?_
 refine GPW.ef (Ef.l8 (enc:=aJ) (e:=s') rfl rfl rfl rfl rfl (by rfl) (jd _) ac ac) ae ?_;rintro _ _⟨sad2,scap2,rfl,rfl⟩;repeat first|refine aa ?_|intro _|refine db ?_
 rw[hsid];refine KX.d7 ai ?_ ⟨rfl,rfl⟩;refine Ent.trans ?_ (mf (S:=lH S s.m) { x with stk:=ir x.stk g,tot:=m',steps:=x.steps++[s'],sad:=sad2,scap:=scap2,flows:=x.flows++z.flows,fad:=fad2,fcap:=fcap2 } ⟨hF.cat,hF.catB,?_,?_,?_,?_,?_,hF.imp,hF.ret⟩)
 ·simp only[ledL,fm,lH];refine(Ent.at (A:=stP s') (Ent.refl _)).trans ?_;refine(Ent.at (A:=stM s') (Ent.refl _)).trans ?_;refine(Ent.f7 (nz s') (cQ iA)).trans ?_;refine(Ent.at (A:=allP bA x.steps) (Ent.refl _)).trans ?_;refine((Ent.d7 (Ent.g7 (f:=bA) (x:=s') lR)).trans (Ent.g8 lR)).trans ?_;refine(Ent.at (A:=allP flP z.flows) (Ent.refl _)).trans ?_;refine(Ent.at (A:=allP flP x.flows) (Ent.refl _)).trans ?_;refine(Ent.g8 lK).trans ?_;refine(Ent.at (A:=allP (fun p:(Int×Int)×Stk=>stkP p.2) z.stk) (Ent.refl _)).trans ?_;refine(Ent.at (A:=allP (fun p:(Int×Int)×Stk=>stkP p.2) x.stk) (Ent.refl _)).trans ?_;refine(Ent.g8 (f:=fun p:(Int×Int)×Stk=>stkP p.2) (fun p=>vp p.2)).trans ?_;refine(Ent.g9 (l':=ir x.stk g) (fun q hq=>?_)).trans ?_
  ·rcases nJ hq with h1|h1
   ·exact cA _ h1
   ·exact cV _ (hp.mem_iff.1 h1.1)
  exact ag
 ·intro a i;rw[oE _ _ _ ((hp.map _).nodup_iff.2 hnd),wv hp hnd];exact hW.stk a i
 ·intro q hq;rcases nJ hq with h1|h1
  ·exact hF.full q h1
  ·exact h1.2
 ·intro i;dsimp only;rw[hm',FI];exact hW.tot i
 ·show(x.steps++[s']).map StV.m=S.steps++[s.m.at (aR S)];rw[aZ,hF.steps,←hs'];rfl
 ·show(x.flows++z.flows).map (·.m)=S.flows++(tryM S s.m).2.flows;rw[aZ,hF.flows];exact congrArg _ hW.flows
end
section
open Go.V
attribute [local irreducible] G GO GP GPW GPK Ev Ef EfR Ent CB GB Enters
theorem CatV.d7{c c' : CatV}(h:c'.m=c.m)(hB:c.B):c'.B:=by
 obtain⟨b1,b2,b3,b4,b5,b6,b7⟩:=hB;have h1:c'.items=c.items:=congrArg CatM.items h;have h2:c'.rules.map RuV.m=c.rules.map RuV.m:=congrArg CatM.rules h;have h3:c'.tables.map TbV.m=c.tables.map TbV.m:=congrArg CatM.tables h;have h4:c'.taxes.map TxV.m=c.taxes.map TxV.m:=congrArg CatM.taxes h;have l2:c'.rules.length=c.rules.length:=by simpa using congrArg List.length h2
 have l3:c'.tables.length=c.tables.length:=by simpa using congrArg List.length h3
 have l4:c'.taxes.length=c.taxes.length:=by simpa using congrArg List.length h4
 refine⟨by rw[h1];exact b1,ac,ac,ac,?_,?_,?_⟩
 ·intro r hr;have hm:r.m∈c.rules.map RuV.m:=by rw[←h2];exact alStd0List_mem_map_of_mem hr
  obtain⟨q,hq,hqe⟩:=List.mem_map.1 hm;obtain⟨q1,q2,q3⟩:=b5 q hq;have t1:q.take.l=r.take.l:=congrArg RuM.take hqe;have t2:q.give.l=r.give.l:=congrArg RuM.give hqe;have t3:q.back.l=r.back.l:=congrArg RuM.back hqe;exact⟨by rw[←t1];exact q1,by rw[←t2];exact q2,by rw[←t3];exact q3⟩
 ·intro r hr;have hm:r.m∈c.tables.map TbV.m:=by rw[←h3];exact alStd0List_mem_map_of_mem hr
  obtain⟨q,hq,hqe⟩:=List.mem_map.1 hm;obtain⟨q1,q2⟩:=b6 q hq;have t1:q.rows.map RwV.m=r.rows.map RwV.m:=congrArg TbM.rows hqe;have t2:q.rows.length=r.rows.length:=by simpa using congrArg List.length t1
  refine⟨by rw[←t2];exact q1,?_⟩;intro w hw;have hw2:w.m∈q.rows.map RwV.m:=by rw[t1];exact alStd0List_mem_map_of_mem hw
  obtain⟨y,hy,hye⟩:=List.mem_map.1 hw2;have t4:y.give.l=w.give.l:=congrArg RwM.give hye;have:=q2 y hy
  unfold RwV.B at this ⊢;rw[←t4];exact this
 ·intro r hr;have hm:r.m∈c.taxes.map TxV.m:=by rw[←h4];exact alStd0List_mem_map_of_mem hr
  obtain⟨q,hq,hqe⟩:=List.mem_map.1 hm;have q1:=b7 q hq;have t1:q.brs=r.brs:=congrArg TxM.brs hqe;unfold TxV.B at q1 ⊢;rw[←t1];exact q1
end
section
theorem Eu{u v y1 y0 B:Nat}(hv:v<B)(hy:0<y1)(h0:0<B):(u*B+v) / (y1*B+y0)≤u / y1:=by
 rw[Nat.le_div_iff_mul_le hy];have hd:(u*B+v) / (y1*B+y0)*(y1*B+y0)≤u*B+v:=Nat.div_mul_le_self _ _;generalize (u*B+v) / (y1*B+y0)=q at *;have h1:q*y1*B≤q*(y1*B+y0):=by rw[Nat.mul_add,Nat.mul_assoc];exact Nat.le_add_right _ _
 have h2:q*y1*B<(u+1)*B:=by rw[Nat.add_mul];omega
 have h3:=Nat.lt_of_mul_lt_mul_right h2;omega
theorem zD{u v y1 y0 B q r:Nat}(hr:u=q*y1+r)(h:q*y0≤B*r+v):q*(y1*B+y0)≤u*B+v:=by
 subst hr;rw[Nat.mul_add,Nat.add_mul,←Nat.mul_assoc,Nat.mul_comm r B];omega
theorem FQ{u v y1 y0 B q r:Nat}(hr:u=q*y1+r)(h:B*r+v<q*y0)(hy:0<y1*B+y0):(u*B+v) / (y1*B+y0)<q:=by
 rw[Nat.div_lt_iff_lt_mul hy];subst hr;rw[Nat.mul_add,Nat.add_mul,←Nat.mul_assoc,Nat.mul_comm r B];omega
theorem qQ{u v y B:Nat}(hu:u<y)(hv:v<B)(hy:0<y):(u*B+v) / y<B:=by
 rw[Nat.div_lt_iff_lt_mul hy];have h1:(u+1)*B≤y*B:=Nat.mul_le_mul_right _ hu;rw[Nat.add_mul] at h1;rw[Nat.mul_comm B y];omega
theorem Ew{u v y1 y0 B q r:Nat}(hr:u=q*y1+r)(hB:B≤r)(hq:q≤B)(hy:y0<B):q*(y1*B+y0)≤u*B+v:=by
 refine zD hr ?_;have h1:q*y0≤B*y0:=Nat.mul_le_mul_right _ hq;have h2:B*y0≤B*r:=Nat.mul_le_mul_left _ (by omega);omega
theorem EV{n y q:Nat}(hy:0<y)(h1:n / y≤q)(h2:q*y≤n):q=n / y:=by
 have h3:q≤n / y:=(Nat.le_div_iff_mul_le hy).2 h2;omega
end
section
open Go.V
theorem lG(l:LL):∀i,i≤l.length→(List.range i).foldl (fun s k=>s+l[k]!.2.2) 0=lsum (l.take i):=by
 intro i;induction i with
 | zero=>intro _;simp[lsum]
 | succ i ih =>
  intro hi;rw[eu,cJ,ih ac,dV l ac];rfl
theorem gM(l:LL):lsum (l.take l.length)=lsum l:=by rw[aD (aB _)]
theorem pW{f g:Nat→Int}:∀(n:Nat),(∀k,k<n→f k=g k)→(List.range n).foldl (fun s k=>s+f k) 0=(List.range n).foldl (fun s k=>s+g k) (0:Int):=by
 intro n;induction n with
 | zero=>intro _;rfl
 | succ n ih =>
  intro h;rw[eu,cJ,cJ,ih (fun k hk=>h k ac)];simp[h n ac]
theorem jw{l:LL}(h:∀x∈l,LotOk x){k:Nat}(hk:k<l.length):0<lsum l:=by
 have h1:=gx h k ac;have h2:=dV l hk;have h3:=h _ (aI hk);unfold LotOk at h3
 have h4:∀j,k+1≤j→j≤l.length→lsum (l.take (k+1))≤lsum (l.take j):=by
  intro j;induction j with
  | zero=>intro h;omega
  | succ j ih =>
   intro hj hjl;rcases cg k j with h5|h5
   ·have h6:=ih ac ac;have h7:=dV l (show j<l.length by omega);have h8:=h _ (aI (show j<l.length by omega));unfold LotOk at h8;omega
   ·obtain rfl:j=k:=ac;exact bu _
 have h5:=h4 l.length ac (aB _);rw[gM] at h5;omega
theorem Cr{l:LL}{n:Int}(hl:∀x∈l,LotOk x)(h0:0≤n)(h1:n≤lsum l)(k:Nat)(hk:k<l.length):0≤shC l n k∧shC l n k≤l[k]!.2.2:=by
 have hs:=jw hl hk;have hw:=hl _ (aI hk);unfold LotOk at hw;have hq0:0≤shQ l n k:=iU (dC h0 ac) ac;unfold shC;rcases Int.lt_or_le n (lsum l) with hlt|hge
 ·have hq1:shQ l n k<l[k]!.2.2:=by
   unfold shQ;refine Int.ediv_lt_of_lt_mul hs ?_;rw[Int.mul_comm];exact Int.mul_lt_mul_of_pos_left hlt ac
  constructor
  ·split<;>omega
  ·split<;>omega
 ·have hn:n=lsum l:=ac
  have hqe:∀j,shQ l n j=l[j]!.2.2:=by
   intro j;unfold shQ;rw[hn];exact Int.mul_ediv_cancel_left _ ac
  have hleft:ft l n=0:=by
   unfold ft;rw[pW (g:=fun j=>l[j]!.2.2) l.length (fun j _=>hqe j),lG l l.length (aB _),gM];omega
  rw[hleft,hqe k];constructor
  ·split<;>omega
  ·rw[if_neg ac];omega
theorem mZ(mixed:Bool)(l:LL)(n:Int)(hl:∀x∈l,LotOk x)(h0:0≤n)(h1:n≤lsum l)(k:Nat)(hk:k<l.length):0≤tkC mixed l n k∧tkC mixed l n k≤l[k]!.2.2:=by
 unfold tkC;split
 ·exact Cr hl h0 h1 k hk
 ·exact nr h0 (fun x h=>(hl x h).w) k hk
def rkLt(R:Nat→Int)(i j:Nat):Prop:=R j<R i∨(R i=R j∧i<j)
def ej(R:Nat→Int)(n k:Nat):Nat:=((List.range n).filter (fun j=>decide (R k<R j∨(R j=R k∧j<k)))).length
theorem nC(l:LL)(n:Int)(k:Nat):ET l n k=ej (shR l n) l.length k:=rfl
theorem jk{R:Nat→Int}{n:Nat}{o:List Nat}(hp:o.Perm (List.range n))(hs:o.Pairwise (rkLt R)){p:Nat}(h:p<o.length):ej R n o[p]=p:=by
 unfold ej;rw[←(hp.filter _).length_eq];have hpw:=List.pairwise_iff_getElem.1 hs
 have e:o=o.take p++o[p]::o.drop (p+1):=by
  conv=>lhs;rw[←fi p o,eD h]
 have h1:(o.take p).filter (fun j=>decide (R o[p]<R j∨(R j=R o[p]∧j<o[p])))=o.take p:=by
  rw[List.filter_eq_self];intro x hx;obtain⟨i,hi,rfl⟩:=List.mem_iff_getElem.1 hx;rw[aY] at hi;rw[dW];have:=hpw i p ac h ac
  simpa [rkLt] using this
 have h2:(o.drop (p+1)).filter (fun j=>decide (R o[p]<R j∨(R j=R o[p]∧j<o[p])))=[]:=by
  rw[List.filter_eq_nil_iff];intro x hx;obtain⟨i,hi,rfl⟩:=List.mem_iff_getElem.1 hx;rw[bR] at hi;rw[eG];have:=hpw p (p+1+i) h ac ac
  unfold rkLt at this;simp only[decide_eq_true_eq];omega
 have h3:(o.filter (fun j=>decide (R o[p]<R j∨(R j=R o[p]∧j<o[p])))).length=((o.take p++o[p]::o.drop (p+1)).filter (fun j=>decide (R o[p]<R j∨(R j=R o[p]∧j<o[p])))).length:=by rw[←e]
 rw[h3,dJ,h1,cv (by simp),h2];simp;omega
theorem oN(R:Nat→Int)(n:Nat):∃o:List Nat,o.Perm (List.range n)∧o.Pairwise (rkLt R):=by
 refine⟨(List.range n).mergeSort (fun i j=>decide (R j<R i∨(R i=R j∧i≤j))),List.mergeSort_perm _ _,?_⟩;have hp:=List.mergeSort_perm (List.range n) (fun i j=>decide (R j<R i∨(R i=R j∧i≤j)));have hnd:=hp.nodup_iff.2 List.nodup_range;have hs:=List.pairwise_mergeSort (le:=fun i j=>decide (R j<R i∨(R i=R j∧i≤j))) (by intro a b c h1 h2;simp only[decide_eq_true_eq] at *;omega) (by intro a b;simp only[Bool.or_eq_true,decide_eq_true_eq];omega) (List.range n);rw[List.pairwise_iff_getElem] at hs ⊢;intro i j hi hj hij;have h1:=hs i j hi hj hij;have h2:=(List.pairwise_iff_getElem.1 hnd) i j hi hj hij;simp only[decide_eq_true_eq] at h1;unfold rkLt;omega
theorem vC{R:Nat→Int}{n:Nat}{o:List Nat}(hp:o.Perm (List.range n))(hs:o.Pairwise (fun a b=>¬(R a<R b∨(R a=R b∧b<a)))):o.Pairwise (rkLt R):=by
 have hnd:=hp.nodup_iff.2 List.nodup_range;rw[List.pairwise_iff_getElem] at hs ⊢;intro i j hi hj hij;have h1:=hs i j hi hj hij;have h2:=(List.pairwise_iff_getElem.1 hnd) i j hi hj hij;unfold rkLt;omega
theorem ik{R:Nat→Int}{n:Nat}{o:List Nat}(hp:o.Perm (List.range n))(hs:o.Pairwise (rkLt R)){k m:Nat}(hk:k<n):k∈o.take m↔ej R n k<m:=by
 have hm:k∈o:=hp.mem_iff.2 (List.mem_range.2 hk);have hnd:=hp.nodup_iff.2 List.nodup_range;obtain⟨p,hpl,rfl⟩:=List.mem_iff_getElem.1 hm;rw[jk hp hs hpl];constructor
 ·intro h;obtain⟨i,hi,he⟩:=List.mem_iff_getElem.1 h;rw[aY] at hi;rw[dW] at he;have:=(eV hnd).1 he
  omega
 ·intro h;refine List.mem_iff_getElem.2 ⟨p,by rw[aY];omega,?_⟩;rw[dW]
theorem GQ{R:Nat→Int}{n m:Nat}(hm:m<n):∃k,k<n∧ej R n k=m∧∀j,j<n→j≠k→m≤ej R n j→rkLt R k j:=by
 obtain⟨o,hp,hs⟩:=oN R n;have hl:o.length=n:=by have:=hp.length_eq;simpa using this
 have hmo:m<o.length:=ac;refine⟨o[m],List.mem_range.1 (hp.mem_iff.1 (eQ hmo)),jk hp hs hmo,?_⟩;intro j hj hne hle;have hjm:j∈o:=hp.mem_iff.2 (List.mem_range.2 hj);obtain⟨p,hpl,rfl⟩:=List.mem_iff_getElem.1 hjm;rw[jk hp hs hpl] at hle;have hnm:p≠m:=by rintro rfl;exact hne rfl
 exact(List.pairwise_iff_getElem.1 hs) m p hmo hpl ac
theorem rU{R:Nat→Int}{n i j:Nat}(hi:i<n)(hj:j<n)(h:ej R n i=ej R n j):i=j:=by
 obtain⟨o,hp,hs⟩:=oN R n;have him:i∈o:=hp.mem_iff.2 (List.mem_range.2 hi);have hjm:j∈o:=hp.mem_iff.2 (List.mem_range.2 hj);obtain⟨p,hpl,rfl⟩:=List.mem_iff_getElem.1 him;obtain⟨q,hql,rfl⟩:=List.mem_iff_getElem.1 hjm;rw[jk hp hs hpl,jk hp hs hql] at h;subst h;rfl
def cS(n:Nat)(f:Nat→Int):Int:=(List.range n).foldl (fun s k=>s+f k) 0
theorem jA(f:Nat→Int):cS 0 f=0:=rfl
theorem dU(n:Nat)(f:Nat→Int):cS (n+1) f=cS n f+f n:=by
 unfold cS;rw[eu,cJ];rfl
theorem pZ{n:Nat}{f g:Nat→Int}(h:∀k,k<n→f k=g k):cS n f=cS n g:=by
 induction n with
 | zero=>rfl
 | succ n ih=>rw[dU,dU,ih (fun k hk=>h k ac),h n ac]
theorem tE(n:Nat)(f g:Nat→Int):cS n (fun k=>f k+g k)=cS n f+cS n g:=by
 induction n with
 | zero=>rfl
 | succ n ih=>rw[dU,dU,dU,ih];omega
theorem Cl(n:Nat)(f g:Nat→Int):cS n (fun k=>f k - g k)=cS n f - cS n g:=by
 induction n with
 | zero=>rfl
 | succ n ih=>rw[dU,dU,dU,ih];omega
theorem tD(n:Nat)(c:Int)(f:Nat→Int):cS n (fun k=>c*f k)=c*cS n f:=by
 induction n with
 | zero=>simp[jA]
 | succ n ih=>rw[dU,dU,ih,Int.mul_add]
theorem kK{n:Nat}{f g:Nat→Int}(h:∀k,k<n→f k≤g k):cS n f≤cS n g:=by
 induction n with
 | zero=>exact bu _
 | succ n ih=>rw[dU,dU];have:=ih (fun k hk=>h k ac);have:=h n ac;omega
theorem mM(n:Nat)(c:Int):cS n (fun _=>c)=n*c:=by
 induction n with
 | zero=>simp[jA]
 | succ n ih=>rw[dU,ih,Int.natCast_succ,Int.add_mul,Int.one_mul]
theorem th{f:Nat→Int}{l l' : List Nat}(h:l.Perm l'):∀s:Int,l.foldl (fun s k=>s+f k) s=l'.foldl (fun s k=>s+f k) s:=by
 induction h with
 | nil=>intro s;rfl
 | cons x _ ih=>intro s;exact ih _
 | swap x y l=>intro s;simp only[gn];rw[show s+f y+f x=s+f x+f y by omega]
 | trans _ _ ih1 ih2=>intro s;rw[ih1,ih2]
theorem Ee(R:Nat→Int){n m:Nat}(hm:m≤n):cS n (fun k=>if ej R n k<m then 1 else 0)=m:=by
 obtain⟨o,hp,hs⟩:=oN R n;have hl:o.length=n:=by have:=hp.length_eq;simpa using this
 unfold cS;rw[←th hp]
 have h:∀q,q≤n→(o.take q).foldl (fun (s:Int) k=>s+if ej R n k<m then 1 else 0) 0=min q m:=by
  intro q;induction q with
  | zero=>intro _;simp
  | succ q ih =>
   intro hq;rw[aC ac,cJ,ih ac];simp only[gn,List.foldl_nil];rw[jk hp hs ac];split<;>omega
 have h2:=h n (aB _);rw[aD ac] at h2;rw[h2];omega
theorem sd(l:LL):lsum l=cS l.length (fun k=>l[k]!.2.2):=by
 unfold cS;rw[lG l l.length (aB _),gM]
theorem kf(l:LL)(n:Int):ft l n=n - cS l.length (shQ l n):=rfl
theorem lj{l:LL}{n:Int}(hl:∀x∈l,LotOk x)(h0:l≠[]):0≤ft l n∧ft l n<l.length:=by
 have hlen:0<l.length:=List.length_pos_iff.2 h0;have hs:=jw hl hlen
 have h1:cS l.length (fun k=>lsum l*shQ l n k+shR l n k)=cS l.length (fun k=>n*l[k]!.2.2) :=
  pZ (fun k _=>by unfold shQ shR;exact Int.mul_ediv_add_emod _ _)
 rw[tE,tD,tD,←sd] at h1
 have h2:cS l.length (shR l n)≤cS l.length (fun _=>lsum l - 1):=kK (fun k _=>by
  have:=dw (n*l[k]!.2.2) hs
  unfold shR;omega)
 have h3:cS l.length (fun _=>(0:Int))≤cS l.length (shR l n):=kK (fun k _=>dg _ ac);rw[mM] at h2 h3
 have h4:lsum l*ft l n=cS l.length (shR l n):=by
  rw[kf,Int.mul_sub];rw[Int.mul_comm (lsum l) n];omega
 have h5:0≤lsum l*ft l n:=by rw[h4];omega
 have h6:lsum l*ft l n<lsum l*l.length:=by
  rw[h4]
  have:(l.length:Int)*(lsum l - 1)<lsum l*l.length:=by
   rw[Int.mul_sub,Int.mul_one,Int.mul_comm];omega
  omega
 exact⟨Int.nonneg_of_mul_nonneg_right h5 hs,Int.lt_of_mul_lt_mul_left h6 ac⟩
theorem FC{l:LL}{n:Int}(hl:∀x∈l,LotOk x)(h0:l≠[]):cS l.length (shC l n)=n:=by
 obtain⟨h1,h2⟩:=lj (n:=n) hl h0
 have e:cS l.length (shC l n)=cS l.length (fun k=>shQ l n k+(if ej (shR l n) l.length k<(ft l n).toNat then 1 else 0)):=pZ (fun k _=>by
  unfold shC;rw[nC];congr 1;by_cases hb:ej (shR l n) l.length k<(ft l n).toNat
  ·rw[if_pos hb,if_pos ac]
  ·rw[if_neg hb,if_neg ac])
 rw[e,tE,Ee _ ac,kf] at *;omega
theorem FZ(l:LL)(m:Int):∀k,fuR l m k=m - cS k (fuC l m):=by
 intro k;induction k with
 | zero=>simp[fuR,jA]
 | succ k ih =>
  rw[dU];show fuR l m k - min (fuR l m k) l[k]!.2.2=_;unfold fuC at *;omega
theorem Ga{l:LL}{m:Int}(hl:∀x∈l,LotOk x)(h0:0≤m)(h1:m≤lsum l):cS l.length (fuC l m)=m:=by
 have h2:∀k,k≤l.length→fuR l m k=max 0 (m - lsum (l.take k)):=by
  intro k;induction k with
  | zero=>intro _;simp[fuR,lsum];omega
  | succ k ih =>
   intro hk;have h3:=hl _ (aI (show k<l.length by omega));have h4:=gx hl k ac;unfold LotOk at h3;simp only[fuR];rw[ih ac,dV l ac];omega
 have h3:=h2 l.length (aB _);rw[gM,FZ] at h3;omega
theorem Fs{mixed:Bool}{l:LL}{n:Int}(hl:∀x∈l,LotOk x)(h0:0≤n)(h1:n≤lsum l):cS l.length (tkC mixed l n)=n:=by
 unfold tkC;split
 ·rename_i h;refine FC hl ?_;rintro rfl;simp[lsum] at h1;omega
 ·exact Ga hl h0 h1
theorem gt(a b:LL):lsum (a++b)=lsum a+lsum b:=by
 have h:∀(l:LL) (s:Int),l.foldl (fun s x=>s+x.2.2) s=s+l.foldl (fun s x=>s+x.2.2) 0:=by
  intro l;induction l with
  | nil=>intro s;simp
  | cons x l ih=>intro s;simp only[gn];rw[ih,ih (0+x.2.2)];omega
 unfold lsum;rw[cJ,h]
theorem gS(x:Lot):lsum [x]=x.2.2:=by simp[lsum]
theorem nQ(l:LL)(x:Lot):lsum (be l x)=lsum l+x.2.2:=by
 unfold be;split
 ·omega
 ·split
  ·rename_i h;obtain⟨h1,_⟩:=h
   have e:l=l.take (l.length - 1)++[l[l.length - 1]!]:=by
    conv=>lhs;rw[←fi (l.length - 1) l,eD ac,bP ac]
    rw[getElem!_of ac]
   have e2:l.set (l.length - 1) (l[l.length - 1]!.1,l[l.length - 1]!.2.1,l[l.length - 1]!.2.2+x.2.2)=l.take (l.length - 1)++[(l[l.length - 1]!.1,l[l.length - 1]!.2.1,l[l.length - 1]!.2.2+x.2.2)]:=by
    rw[List.set_eq_take_append_cons_drop,if_pos ac,bP ac]
   have e3:lsum l=lsum (l.take (l.length - 1))+l[l.length - 1]!.2.2:=by
    conv=>lhs;rw[e]
    rw[gt,gS]
   rw[e2,gt,gS,e3];dsimp only;omega
  ·rw[gt,gS]
theorem EJ(l:LL)(cs:Nat→Int)(m:Nat):lsum (divR l cs m)=cS m (fun k=>l[k]!.2.2 - cs k):=by
 induction m with
 | zero=>rfl
 | succ m ih=>rw[mJ,nQ,ih,dU];rfl
theorem CZ{mixed:Bool}{l:LL}{n:Int}(hl:∀x∈l,LotOk x)(h0:0≤n)(h1:n≤lsum l):lsum (eJ mixed l n)=lsum l - n:=by
 unfold eJ;rw[EJ,Cl,Fs hl h0 h1,←sd]
