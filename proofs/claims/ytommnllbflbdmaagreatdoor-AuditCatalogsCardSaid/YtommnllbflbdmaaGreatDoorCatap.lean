/- Lemmas. -/
import Derived.Test.YtommnllbflbdmaaGreatDoorCatao
set_option linter.all false
set_option maxHeartbeats 2000000
namespace Go.Proofs.YtommnllbflbdmaaGreatDoor
section
open Go.V
attribute [local irreducible] G GO GP GPW GPK Ev Ef EfR Ent CB GB Enters
section plain
variable {κ α:Type}[DecidableEq κ]
def rC(p:κ×α)(l:List (κ×α))(k:κ):glk (p::l) k=if k=p.1 then some p.2 else glk l k:=by
 obtain⟨q,a⟩:=p;unfold glk;rw[dw];by_cases h:k=q
 ·subst h;simp
 ·have hb:(k == q)=false:=by simpa using h
  simp only[hb,if_neg h]
def jQ(m:List (κ×α))(k q:κ)(a:α):glk (gins m k a) q=if q=k then some a else glk m q:=hJ
def Gk(m:List (κ×α))(k q:κ):glk (gera m k) q=if q=k then none else glk m q:=Ah
def xr{l:List (κ×α)}{k:κ}(h:k∉l.map (·.1)):glk l k=none:=by
 induction l with
 | nil=>rfl
 | cons p l ih =>
  simp only[bY,bh,not_or] at h;rw[rC,if_neg h.1,ih h.2]
def oF{l l' : List (κ×α)}(hp:l.Perm l')(hn:(l'.map (·.1)).Nodup)(k:κ):glk l k=glk l' k:=by
 have a0:(l.map (·.1)).Nodup:=(hp.map _).nodup_iff.2 hn;cases h:glk l k with
 | some a=>exact(lH hn (hp.mem_iff.1 (jl h))).symm
 | none =>
  cases h2:glk l' k with
  | none=>rfl
  | some a =>
   have h3:glk l k=some a:=lH a0 (hp.mem_iff.2 (jl h2));rw[h] at h3;cases h3
def iA(m n:List (κ×α)):List (κ×α):=n.foldl (fun m p=>gins m p.1 p.2) m
def nD(k:κ):∀(n m:List (κ×α)),(n.map (·.1)).Nodup→glk (iA m n) k=(glk n k).or (glk m k)
 | [],m,_=>rfl
 | p::n,m,hn=>by
  simp only[bY,gi] at hn;have ih:=nD k n (gins m p.1 p.2) hn.2;have e:iA m (p::n)=iA (gins m p.1 p.2) n:=rfl;rw[e,ih,rC,jQ];by_cases h:k=p.1
  ·rw[if_pos h,if_pos h,xr (h▸hn.1)];rfl
  ·rw[if_neg h,if_neg h]
end plain
def putS(m:List ((Int×Int)×Stk))(p:(Int×Int)×Stk):List ((Int×Int)×Stk):=if p.2.lots.length=0 then gera m p.1 else gins m p.1 p.2
def fH(m n:List ((Int×Int)×Stk)):List ((Int×Int)×Stk):=n.foldl putS m
def si(m:List ((Int×Int)×Stk))(p:(Int×Int)×Stk)(k:Int×Int):(eU (putS m p) k).lots=if k=p.1 then p.2.lots else(eU m k).lots:=by
 unfold eU putS;by_cases h0:p.2.lots.length=0
 ·rw[if_pos h0,Gk];by_cases h:k=p.1
  ·rw[if_pos h,if_pos h,aW h0];rfl
  ·rw[if_neg h,if_neg h]
 ·rw[if_neg h0,jQ];by_cases h:k=p.1
  ·rw[if_pos h,if_pos h];rfl
  ·rw[if_neg h,if_neg h]
def mK(k:Int×Int):∀(n m:List ((Int×Int)×Stk)),(n.map (·.1)).Nodup→(eU (fH m n) k).lots=((glk n k).getD (eU m k)).lots
 | [],m,_=>rfl
 | p::n,m,hn=>by
  simp only[bY,gi] at hn;have ih:=mK k n (putS m p) hn.2;have e:fH m (p::n)=fH (putS m p) n:=rfl;rw[e,ih,rC];by_cases h:k=p.1
  ·rw[if_pos h,xr (h▸hn.1)];have h2:=si m p k;rw[if_pos h] at h2;exact h2
  ·rw[if_neg h];cases glk n k with
   | some s=>rfl
   | none =>
    have h2:=si m p k;rw[if_neg h] at h2;exact h2
def FN{m:List ((Int×Int)×Stk)}{p q:(Int×Int)×Stk}(h:q∈putS m p):q∈m∨(q=p∧p.2.lots≠[]):=by
 unfold putS at h;split at h
 ·exact .inl (List.mem_filter.1 h).1
 ·rename_i h0;rcases List.mem_cons.1 (oG q h) with h1|h1
  ·exact .inr ⟨h1,fun h=>h0 (by rw[h];rfl)⟩
  ·exact .inl h1
def lk{q:(Int×Int)×Stk}:∀{n m:List ((Int×Int)×Stk)},q∈fH m n→q∈m∨(q∈n∧q.2.lots≠[])
 | [],m,h=>.inl h
 | p::n,m,h=>by
  rcases lk (n:=n) (m:=putS m p) h with h1|h1
  ·rcases FN h1 with h2|h2
   ·exact .inl h2
   ·exact .inr ⟨by rw[h2.1];exact au ..,by rw[h2.1];exact h2.2⟩
  ·exact .inr ⟨aw _ h1.1,h1.2⟩
def sW(d s:Nat)(m n:List (Int×Int)) :
  Tri ai 65 #[.map (some d),.map (some s)] [gmap kvI encN d m,gmap kvI encN s n] (fun _ L'=>∃m',(∀k,glk m' k=(glk n k).or (glk m k))∧L' = [gmap kvI encN d m']):=by
 refine Tri.bd ?_;refine G.ent Ent.swap ?_;refine G.e8 (lq (b:=s) (kv:=kvI) (enc:=encN) (m:=n)) ?_;intro hn;refine IF ?_;intros;refine GO.ef (Ef.m5 rfl) ag ?_;rintro _ _⟨r,rfl,rfl⟩;refine IF ?_;intros;refine G.loop (α:=List (Int×Int)) (fun z=>z.length≤n.length) (fun z=>[(0,.map (some d)),(7,aq r)]) (fun z=>[jv kvI encN s n r z,gmap kvI encN d (iA m z)]) (fun z=>n.length - z.length) [] (az _) an (Ent.refl _) ?_;intro z hz;refine IF ?_;intros;refine GO.ef (Ef.m7 rfl) ag ?_;rintro _ _ (⟨rfl,rfl,hp⟩|⟨p,rfl,rfl,a0,a1,hl⟩)
 ·refine IF ?_;intros;refine KX.e7 av Ent.drop ⟨iA m z,fun k=>?_,rfl⟩;rw[nD k z m ((hp.map _).nodup_iff.2 hn),oF hp hn]
 refine IF ?_;intros;refine GO.ev (Ev.m7 (done:=z) rfl rfl) ag ?_;refine IF ?_;intros;refine GO.efu (Ef.e9 (enc:=encN) (e:=p.2) rfl rfl rfl rfl) ?_;rintro _ _ rfl;refine IF ?_;intros;refine⟨z++[p],by simp;omega,by simp;omega,an,?_⟩;rw[show iA m (z++[p])=gins (iA m z) p.1 p.2 by simp[iA]];exact ah
def sV(d s:Nat)(m:List (Int×Stk)) :
  Tri ai 66 #[.map (some d),.map (some s)] [gmap kvI Stk.v d m,gmap kvI Stk.v s []] (fun _ L'=>L' = [gmap kvI Stk.v d m]):=by
 refine Tri.bd ?_;refine G.ent Ent.swap ?_;refine IF ?_;intros;refine GO.ef (Ef.m5 rfl) ag ?_;rintro _ _⟨r,rfl,rfl⟩;refine IF ?_;intros;refine G.d9 1 (GR.step ?_);refine IF ?_;intros;refine GO.ef (Ef.m7 rfl) ag ?_;rintro _ _ (⟨rfl,rfl,hp⟩|⟨p,rfl,rfl,a0,a1,hl⟩)
 ·refine IF ?_;intros;exact KX.e7 av Ent.drop rfl
 ·exact absurd a0 bH
end
section
open Go.V
attribute [local irreducible] G GO GP GPW GPK Ev Ef EfR Ent CB GB Enters
noncomputable def my(S:LedM)(s:StM):LedM:={ S with stk:=(tryM S s).2.stk,tot:=(tryM S s).2.tot,steps:=S.steps++[s.at (bu S)],flows:=S.flows++(tryM S s).2.flows }
open Classical in
noncomputable def ll(S:LedM)(s:StM):LedM:=if(tryM S s).1=0 then my S s else S
noncomputable def BH(S:LedM)(s:StM):Int:=if(tryM S s).1=0 then bu S else 0
def AL{o p:Option Int}{d:Int}:(o.or p).getD d=o.getD (p.getD d):=by cases o<;>rfl
def sE{sh:Int}{nf:Nat}{mix:Int→Bool}{s:StM}(hT:∀mx,TakeC mx)(a0:0≤sh):∀(ms:List MvM) (W:Wk),W.Ok nf→(∀m∈ms,1≤m.n∧m.n≤1099511627776)→(iK sh nf mix s W ms).1=0→(iK sh nf mix s W ms).2.Ok nf∧(iK sh nf mix s W ms).2.flows.length=W.flows.length+ms.length
 | [],W,hO,_,_=>⟨hO,rfl⟩
 | m::ms,W,hO,hn,he=>by
  have e:iK sh nf mix s W (m::ms)=if(gW sh nf mix s W m).1=0 then iK sh nf mix s (gW sh nf mix s W m).2 ms else((gW sh nf mix s W m).1,W):=rfl;rw[e] at he ⊢;by_cases h:(gW sh nf mix s W m).1=0
  ·rw[if_pos h] at he ⊢;obtain⟨h1,h2⟩:=xa hO hT (hn m (au ..)) a0 h;obtain⟨h3,h4⟩:=sE hT a0 ms _ h1 (fun m hm=>hn m (aw _ hm)) he;refine⟨h3,?_⟩;rw[h4,h2,bE];omega
  ·rw[if_neg h] at he;exact absurd he h
def AC{S:LedM}{s:StM}(hS:S.Ok)(hT:∀mx,TakeC mx)(he:(tryM S s).1=0):S.steps.length<65536∧mA S.cat S.now s∧(tryM S s).2.Ok S.flows.length∧(tryM S s).2.flows.length=s.moves.length:=by
 unfold tryM at he ⊢;by_cases h1:65536≤S.steps.length
 ·rw[if_pos h1] at he;exact absurd (show(4:Int)=0 from he) ab
 rw[if_neg h1] at he ⊢;by_cases h2:mA S.cat S.now s
 case neg=>rw[if_pos h2] at he;exact absurd (show(1:Int)=0 from he) ab
 rw[if_neg (fun h=>h h2)] at he ⊢
 have h3:=sE hT hS.shard.1 s.moves (wk0 S) (DM hS) (fun m hm=>by
  have h4:=h2.2.2.2.1 m hm;unfold iM at h4;rw[eY] at h4;exact(of_decide_eq_true h4).2.1) he
 exact⟨ab,h2,h3.1,by rw[h3.2];simp[wk0]⟩
def FO{S:LedM}{s:StM}(hS:S.Ok)(hT:∀mx,TakeC mx):(ll S s).Ok:=by
 unfold ll;split
 ·rename_i he;obtain⟨h1,h2,h3,h4⟩:=AC hS hT he;have hl:=h2.2.2.1.2;have hf:=hS.flows;refine⟨hS.shard,?_,?_,h3.stk,?_⟩
  ·simp only[my,ax,bE,cU];omega
  ·simp only[my,ax,bE,cU];omega
  ·intro i;have:=h3.tot i
   simp only[my,ax];rw[Int.natCast_add];exact this
 ·exact hS
abbrev Cb:=ar3 [.ev 4,.ef 5]
abbrev Ca:=ar4 [.ef 6]
abbrev yL:=ar5 [.ef 8]
abbrev yK:=ar5 [.ef 8]
abbrev yJ:=ar5 [.ef 8]
abbrev yI:=ar5 [.ev 8,.ef 9,.ev 10,.ev 11,.ef 12]
abbrev yH:=ar5 [.ev 8,.ef 9,.ef 10,.ev 11,.ev 12,.ef 13]
def Ln{φ ψ:Prop}(k:ψ)(h:Hid ψ→φ:=by intro k;(repeat (first|refine aa ?_|intro zzz|refine G.dr 100 8 Cb ?_|refine G.dr 100 9 Ca ?_|refine G.dr 100 10 yL ?_|refine G.dr 100 11 yK ?_|refine G.dr 100 12 yJ ?_|refine G.dr 100 13 yI ?_|refine G.dr 100 14 yH ?_));(repeat revert zzz);exact Hid.out k):φ:=h ⟨k⟩
def uj{L:LH}(b:Nat)(S:LedM)(hS:S.Ok)(hc:S.cat.Ok)(s:StV)(hs:StIn s)(hT:∀mx,TakeC mx) :
  Tri ai 24 #[aq b,aN (aX s)] (LedR b S::stM s::stP s::L) (rtQ (.tuple #[ac (BH S s.m),ac (tryM S s.m).1]) (LedR b (ll S s.m)::stM s::stP s::L)):=by
 obtain⟨b0,b1⟩:=hS.shard;have b7:=hS.steps;have b3:=hS.flows;refine Tri.bd ?_;refine G.e7 (f:=ledA b S) ?_;intro x;simp only[ledA,ledL,ak,aj];refine G.e9 ?_;intro hF;have b9:x.steps.length=S.steps.length:=by rw[←hF.steps];simp
 have b8:x.flows.length=S.flows.length:=by rw[←hF.flows];simp
 refine Ln ?_;intros;refine GO.ent Ent.drop ?_;refine GO.ca (FE b S hS hc x hF s hs hT) ?_;rintro _ _ (⟨he,rfl,rfl⟩|⟨he,bc,s',z,rfl,⟨a8,hW⟩,rfl⟩)
 ·have e1:ll S s.m=S:=if_neg he;have e2:BH S s.m=0:=if_neg he;rw[e1,e2];refine Ln ?_;intros;exact KX.d7 av (jP x hF) ⟨rfl,rfl⟩
 have e1:ll S s.m=my S s.m:=if_pos he;have e2:BH S s.m=bu S:=if_pos he;obtain⟨o1,o2,o3,o4⟩:=AC hS hT he;have b4:s.m.moves.length≤64:=o2.2.2.1.2
 have c0:z.flows.length≤64:=by
  have:=congrArg List.length hW.flows
  rw[aA] at this;omega
 have b2:0<z.flows.length:=by
  have h1:=congrArg List.length hW.flows;rw[aA] at h1;have h2:=o2.2.2.1.1;omega
 have a4:s'.id=bu S:=congrArg StM.id a8;rw[e1,e2,he];simp only[chL,ledL,fX,bS];refine Ln ?_;intros;refine GO.d8 (lq (b:=z.cs) (kv:=kvP) (enc:=Stk.v) (m:=z.stk)) ?_;intro a6;refine GO.ef (Ef.m5 rfl) ag ?_;rintro _ _⟨r,rfl,rfl⟩;refine Ln ?_;intros
 refine G.loop (α:=List ((Int×Int)×Stk)) (fun g=>g.length≤z.stk.length) (fun _=>[(0,aq b),(6,aq bc),(23,aq r)])
  (fun g=>jv kvP Stk.v z.cs z.stk r g::gmap kvP Stk.v x.ms (fH x.stk g)::obj bc tCh (fX b s' z)::gmap kvI encN z.ct z.tot::gmap kvI Stk.v z.ci []::gmap kvI Stk.v z.cr []::osl bT 11 dz z.fad z.fcap z.flows::allP (fun p:(Int×Int)×Stk=>stkP p.2) z.stk::allP flP z.flows::obj b tLed (bS S.shard x)::gmap kvI encN x.mt x.tot::asl aX 7 cQ x.sad x.scap x.steps::asl bT 11 dz x.fad x.fcap x.flows::gmap kvI Stk.v x.mi x.imp::gmap kvI Stk.v x.mr x.ret::catP x.cat::allP (fun p:(Int×Int)×Stk=>stkP p.2) x.stk::allP cR x.steps::allP flP x.flows::allP (fun p:Int×Stk=>stkP p.2) x.imp::allP (fun p:Int×Stk=>stkP p.2) x.ret::stM s'::stP s'::stM s::stP s::L)
  (fun g=>z.stk.length - g.length) [] (az _) an ?_ ?_
 ·simp only[fH,List.foldl_nil];exact ah
 intro g hg;simp only[fX,bS];refine Ln ?_;intros;refine GO.ef (Ef.m7 rfl) ag ?_;rintro _ _ (⟨rfl,rfl,hp⟩|⟨p,rfl,rfl,b5,b6,hl⟩)
 case inr =>
  have a7:fH x.stk (g++[p])=putS (fH x.stk g) p:=by simp[fH]
  refine Ln ?_;intros;refine GO.ev (Ev.m7 (done:=g) rfl rfl) ag ?_;simp only[kvP,Stk.v,bY,fk];by_cases h0:p.2.lots.length=0
  ·have a3:putS (fH x.stk g) p=gera (fH x.stk g) p.1:=if_pos h0;refine Ln ?_;intros;refine GPW.efu (Ef.n8 rfl rfl) ?_;rintro _ _ rfl;refine Ln ?_;intros;refine⟨g++[p],by simp;omega,by simp;omega,an,?_⟩;rw[a7,a3];exact ah
  ·have a3:putS (fH x.stk g) p=gins (fH x.stk g) p.1 p.2:=if_neg h0;refine Ln ?_;intros;refine GPW.efu (Ef.e9 (enc:=Stk.v) (e:=p.2) rfl rfl rfl rfl) ?_;rintro _ _ rfl;refine Ln ?_;intros;refine⟨g++[p],by simp;omega,by simp;omega,an,?_⟩;rw[a7,a3];exact ah
 refine Ln ?_;intros;(first|refine GPW.ef (Ef.call (sW x.mt z.ct x.tot z.tot) rfl cT) ag ?_);rintro _ _⟨_,⟨m',a9,rfl⟩,hL⟩;simp only[ak,aj] at hL;subst hL;refine Ln ?_;intros;(first|refine GPW.ef (Ef.call (sV x.mi z.ci x.imp) rfl cT) ag ?_);rintro _ _⟨_,rfl,hL⟩;simp only[ak,aj] at hL;subst hL;refine Ln ?_;intros;(first|refine GPW.ef (Ef.call (sV x.mr z.cr x.ret) rfl cT) ag ?_);rintro _ _⟨_,rfl,hL⟩;simp only[ak,aj] at hL;subst hL;refine Ln ?_;intros;refine GPW.ef (Ef.m9 (enc:=bT) (ys:=z.flows) rfl rfl rfl rfl rfl b2 (fun e _=>jT e) ab ab) ag ?_;rintro _ _⟨a2,a0,rfl,rfl⟩;refine Ln ?_;intros;refine GPW.ef (Ef.l5 (enc:=aX) (e:=s') rfl rfl rfl rfl rfl aJ (lu _) ab ab) ag ?_;rintro _ _⟨a5,a1,rfl,rfl⟩;refine Ln ?_;intros;rw[a4];refine KX.d7 av ?_ ⟨rfl,rfl⟩;refine Ent.trans ?_ (jP (S:=my S s.m) { x with stk:=fH x.stk g,tot:=m',steps:=x.steps++[s'],sad:=a5,scap:=a1,flows:=x.flows++z.flows,fad:=a2,fcap:=a0 } ⟨hF.cat,hF.catB,?_,?_,?_,?_,?_,hF.imp,hF.ret⟩)
 ·simp only[ledL,bS,my];refine(Ent.at (A:=stP s') (Ent.refl _)).trans ?_;refine(Ent.at (A:=stM s') (Ent.refl _)).trans ?_;refine(Ent.e8 (sj s') (cG iQ)).trans ?_;refine(Ent.at (A:=allP cR x.steps) (Ent.refl _)).trans ?_;refine((Ent.d7 (Ent.l0 (f:=cR) (x:=s') lC)).trans (Ent.j0 lC)).trans ?_;refine(Ent.at (A:=allP flP z.flows) (Ent.refl _)).trans ?_;refine(Ent.at (A:=allP flP x.flows) (Ent.refl _)).trans ?_;refine(Ent.j0 lr).trans ?_;refine(Ent.at (A:=allP (fun p:(Int×Int)×Stk=>stkP p.2) z.stk) (Ent.refl _)).trans ?_;refine(Ent.at (A:=allP (fun p:(Int×Int)×Stk=>stkP p.2) x.stk) (Ent.refl _)).trans ?_;refine(Ent.j0 (f:=fun p:(Int×Int)×Stk=>stkP p.2) (fun p=>nL p.2)).trans ?_;refine(Ent.l6 (l':=fH x.stk g) (fun q hq=>?_)).trans ?_
  ·rcases lk hq with h1|h1
   ·exact bQ _ h1
   ·exact bD _ (hp.mem_iff.1 h1.1)
  exact ah
 ·intro a i;rw[mK _ _ _ ((hp.map _).nodup_iff.2 a6),oF hp a6];exact hW.stk a i
 ·intro q hq;rcases lk hq with h1|h1
  ·exact hF.full q h1
  ·exact h1.2
 ·intro i;dsimp only;rw[a9,AL];exact hW.tot i
 ·show(x.steps++[s']).map StV.m=S.steps++[s.m.at (bu S)];rw[aR,hF.steps,←a8];rfl
 ·show(x.flows++z.flows).map (·.m)=S.flows++(tryM S s.m).2.flows;rw[aR,hF.flows];exact congrArg _ hW.flows
end
section
open Go.V
attribute [local irreducible] G GO GP GPW GPK Ev Ef EfR Ent CB GB Enters
def CatV.d7{c c' : CatV}(h:c'.m=c.m)(hB:c.B):c'.B:=by
 obtain⟨b1,b2,b3,b4,b5,b6,b7⟩:=hB;have h1:c'.items=c.items:=congrArg CatM.items h;have h2:c'.rules.map RuV.m=c.rules.map RuV.m:=congrArg CatM.rules h;have h3:c'.tables.map TbV.m=c.tables.map TbV.m:=congrArg CatM.tables h;have h4:c'.taxes.map TxV.m=c.taxes.map TxV.m:=congrArg CatM.taxes h;have l2:c'.rules.length=c.rules.length:=by simpa using congrArg List.length h2
 have l3:c'.tables.length=c.tables.length:=by simpa using congrArg List.length h3
 have l4:c'.taxes.length=c.taxes.length:=by simpa using congrArg List.length h4
 refine⟨by rw[h1];exact b1,ab,ab,ab,?_,?_,?_⟩
 ·intro r hr;have hm:r.m∈c.rules.map RuV.m:=by rw[←h2];exact alStd0List_mem_map_of_mem hr
  obtain⟨q,hq,a0⟩:=List.mem_map.1 hm;obtain⟨q1,q2,q3⟩:=b5 q hq;have t1:q.take.l=r.take.l:=congrArg RuM.take a0;have t2:q.give.l=r.give.l:=congrArg RuM.give a0;have t3:q.back.l=r.back.l:=congrArg RuM.back a0;exact⟨by rw[←t1];exact q1,by rw[←t2];exact q2,by rw[←t3];exact q3⟩
 ·intro r hr;have hm:r.m∈c.tables.map TbV.m:=by rw[←h3];exact alStd0List_mem_map_of_mem hr
  obtain⟨q,hq,a0⟩:=List.mem_map.1 hm;obtain⟨q1,q2⟩:=b6 q hq;have t1:q.rows.map RwV.m=r.rows.map RwV.m:=congrArg TbM.rows a0;have t2:q.rows.length=r.rows.length:=by simpa using congrArg List.length t1
  refine⟨by rw[←t2];exact q1,?_⟩;intro w hw;have a1:w.m∈q.rows.map RwV.m:=by rw[t1];exact alStd0List_mem_map_of_mem hw
  obtain⟨y,hy,a2⟩:=List.mem_map.1 a1;have t4:y.give.l=w.give.l:=congrArg RwM.give a2;have:=q2 y hy
  unfold RwV.B at this ⊢;rw[←t4];exact this
 ·intro r hr;have hm:r.m∈c.taxes.map TxV.m:=by rw[←h4];exact alStd0List_mem_map_of_mem hr
  obtain⟨q,hq,a0⟩:=List.mem_map.1 hm;have q1:=b7 q hq;have t1:q.brs=r.brs:=congrArg TxM.brs a0;unfold TxV.B at q1 ⊢;rw[←t1];exact q1
end
section
def Gg{u v y1 y0 B:Nat}(hv:v<B)(hy:0<y1)(h0:0<B):(u*B+v) / (y1*B+y0)≤u / y1:=by
 rw[Nat.le_div_iff_mul_le hy];have hd:(u*B+v) / (y1*B+y0)*(y1*B+y0)≤u*B+v:=Nat.div_mul_le_self _ _;generalize (u*B+v) / (y1*B+y0)=q at *;have h1:q*y1*B≤q*(y1*B+y0):=by rw[Nat.mul_add,Nat.mul_assoc];exact Nat.le_add_right _ _
 have h2:q*y1*B<(u+1)*B:=by rw[Nat.add_mul];omega
 have h3:=Nat.lt_of_mul_lt_mul_right h2;omega
def AR{u v y1 y0 B q r:Nat}(hr:u=q*y1+r)(h:q*y0≤B*r+v):q*(y1*B+y0)≤u*B+v:=by
 subst hr;rw[Nat.mul_add,Nat.add_mul,←Nat.mul_assoc,Nat.mul_comm r B];omega
def Hw{u v y1 y0 B q r:Nat}(hr:u=q*y1+r)(h:B*r+v<q*y0)(hy:0<y1*B+y0):(u*B+v) / (y1*B+y0)<q:=by
 rw[Nat.div_lt_iff_lt_mul hy];subst hr;rw[Nat.mul_add,Nat.add_mul,←Nat.mul_assoc,Nat.mul_comm r B];omega
def rz{u v y B:Nat}(hu:u<y)(hv:v<B)(hy:0<y):(u*B+v) / y<B:=by
 rw[Nat.div_lt_iff_lt_mul hy];have h1:(u+1)*B≤y*B:=Nat.mul_le_mul_right _ hu;rw[Nat.add_mul] at h1;rw[Nat.mul_comm B y];omega
def Gh{u v y1 y0 B q r:Nat}(hr:u=q*y1+r)(hB:B≤r)(hq:q≤B)(hy:y0<B):q*(y1*B+y0)≤u*B+v:=by
 refine AR hr ?_;have h1:q*y0≤B*y0:=Nat.mul_le_mul_right _ hq;have h2:B*y0≤B*r:=Nat.mul_le_mul_left _ (by omega);omega
def GI{n y q:Nat}(hy:0<y)(h1:n / y≤q)(h2:q*y≤n):q=n / y:=by
 have h3:q≤n / y:=(Nat.le_div_iff_mul_le hy).2 h2;omega
end
section
open Go.V
def mw(l:LL1):∀i,i≤l.length→(List.range i).foldl (fun s k=>s+l[k]!.2.2) 0=lsum (l.take i):=by
 intro i;induction i with
 | zero=>intro _;simp[lsum]
 | succ i ih =>
  intro hi;rw[gh,cB,ih ab,fC l ab];rfl
def jA(l:LL1):lsum (l.take l.length)=lsum l:=by rw[aB (aI _)]
def qJ{f g:Nat→Int}:∀(n:Nat),(∀k,k<n→f k=g k)→(List.range n).foldl (fun s k=>s+f k) 0=(List.range n).foldl (fun s k=>s+g k) (0:Int):=by
 intro n;induction n with
 | zero=>intro _;rfl
 | succ n ih =>
  intro h;rw[gh,cB,cB,ih (fun k hk=>h k ab)];simp[h n ab]
def jO{l:LL1}(h:∀x∈l,LotOk x){k:Nat}(hk:k<l.length):0<lsum l:=by
 have h1:=jH h k ab;have h2:=fC l hk;have h3:=h _ (aL hk);unfold LotOk at h3
 have h4:∀j,k+1≤j→j≤l.length→lsum (l.take (k+1))≤lsum (l.take j):=by
  intro j;induction j with
  | zero=>intro h;omega
  | succ j ih =>
   intro hj a0;rcases dl k j with h5|h5
   ·have h6:=ih ab ab;have h7:=fC l (ab:j<l.length);have h8:=h _ (aL (ab:j<l.length));unfold LotOk at h8;omega
   ·obtain rfl:j=k:=ab;exact bG _
 have h5:=h4 l.length ab (aI _);rw[jA] at h5;omega
def Ec{l:LL1}{n:Int}(hl:∀x∈l,LotOk x)(h0:0≤n)(h1:n≤lsum l)(k:Nat)(hk:k<l.length):0≤shC l n k∧shC l n k≤l[k]!.2.2:=by
 have hs:=jO hl hk;have hw:=hl _ (aL hk);unfold LotOk at hw;have a4:0≤shQ l n k:=jx (ed h0 ab) ab;unfold shC;rcases Int.lt_or_le n (lsum l) with a2|a3
 ·have a5:shQ l n k<l[k]!.2.2:=by
   unfold shQ;refine Int.ediv_lt_of_lt_mul hs ?_;rw[Int.mul_comm];exact Int.mul_lt_mul_of_pos_left a2 ab
  constructor
  ·split<;>omega
  ·split<;>omega
 ·have hn:n=lsum l:=ab
  have a1:∀j,shQ l n j=l[j]!.2.2:=by
   intro j;unfold shQ;rw[hn];exact Int.mul_ediv_cancel_left _ ab
  have a0:iI l n=0:=by
   unfold iI;rw[qJ (g:=fun j=>l[j]!.2.2) l.length (fun j _=>a1 j),mw l l.length (aI _),jA];omega
  rw[a0,a1 k];constructor
  ·split<;>omega
  ·rw[if_neg ab];omega
def pi(mixed:Bool)(l:LL1)(n:Int)(hl:∀x∈l,LotOk x)(h0:0≤n)(h1:n≤lsum l)(k:Nat)(hk:k<l.length):0≤tkC mixed l n k∧tkC mixed l n k≤l[k]!.2.2:=by
 unfold tkC;split
 ·exact Ec hl h0 h1 k hk
 ·exact pS h0 (fun x h=>(hl x h).w) k hk
def rkLt(R:Nat→Int)(i j:Nat):Prop:=R j<R i∨(R i=R j∧i<j)
def jI(R:Nat→Int)(n k:Nat):Nat:=((List.range n).filter (fun j=>decide (R k<R j∨(R j=R k∧j<k)))).length
def vX(l:LL1)(n:Int)(k:Nat):GA l n k=jI (shR l n) l.length k:=rfl
def li{R:Nat→Int}{n:Nat}{o:List Nat}(hp:o.Perm (List.range n))(hs:o.Pairwise (rkLt R)){p:Nat}(h:p<o.length):jI R n o[p]=p:=by
 unfold jI;rw[←(hp.filter _).length_eq];have a0:=List.pairwise_iff_getElem.1 hs
 have e:o=o.take p++o[p]::o.drop (p+1):=by
  conv=>lhs;rw[←dq p o,dO h]
 have h1:(o.take p).filter (fun j=>decide (R o[p]<R j∨(R j=R o[p]∧j<o[p])))=o.take p:=by
  rw[List.filter_eq_self];intro x hx;obtain⟨i,hi,rfl⟩:=List.mem_iff_getElem.1 hx;rw[bg] at hi;rw[List.getElem_take];have:=a0 i p ab h ab
  simpa [rkLt] using this
 have h2:(o.drop (p+1)).filter (fun j=>decide (R o[p]<R j∨(R j=R o[p]∧j<o[p])))=[]:=by
  rw[List.filter_eq_nil_iff];intro x hx;obtain⟨i,hi,rfl⟩:=List.mem_iff_getElem.1 hx;rw[dQ] at hi;rw[List.getElem_drop];have:=a0 p (p+1+i) h ab ab
  unfold rkLt at this;simp only[decide_eq_true_eq];omega
 have h3:(o.filter (fun j=>decide (R o[p]<R j∨(R j=R o[p]∧j<o[p])))).length=((o.take p++o[p]::o.drop (p+1)).filter (fun j=>decide (R o[p]<R j∨(R j=R o[p]∧j<o[p])))).length:=by rw[←e]
 rw[h3,dG,h1,cP bH,h2];simp;omega
def Ei(R:Nat→Int)(n:Nat):∃o:List Nat,o.Perm (List.range n)∧o.Pairwise (rkLt R):=by
 refine⟨(List.range n).mergeSort (fun i j=>decide (R j<R i∨(R i=R j∧i≤j))),List.mergeSort_perm _ _,?_⟩;have hp:=List.mergeSort_perm (List.range n) (fun i j=>decide (R j<R i∨(R i=R j∧i≤j)));have a1:=hp.nodup_iff.2 List.nodup_range;have hs:=List.pairwise_mergeSort (le:=fun i j=>decide (R j<R i∨(R i=R j∧i≤j))) (by intro a b c h1 h2;simp only[decide_eq_true_eq] at *;omega) (by intro a b;simp only[Bool.or_eq_true,decide_eq_true_eq];omega) (List.range n);rw[List.pairwise_iff_getElem] at hs ⊢;intro i j hi hj a0;have h1:=hs i j hi hj a0;have h2:=(List.pairwise_iff_getElem.1 a1) i j hi hj a0;simp only[decide_eq_true_eq] at h1;unfold rkLt;omega
def wg{R:Nat→Int}{n:Nat}{o:List Nat}(hp:o.Perm (List.range n))(hs:o.Pairwise (fun a b=>¬(R a<R b∨(R a=R b∧b<a)))):o.Pairwise (rkLt R):=by
 have a1:=hp.nodup_iff.2 List.nodup_range;rw[List.pairwise_iff_getElem] at hs ⊢;intro i j hi hj a0;have h1:=hs i j hi hj a0;have h2:=(List.pairwise_iff_getElem.1 a1) i j hi hj a0;unfold rkLt;omega
def iH{R:Nat→Int}{n:Nat}{o:List Nat}(hp:o.Perm (List.range n))(hs:o.Pairwise (rkLt R)){k m:Nat}(hk:k<n):k∈o.take m↔jI R n k<m:=by
 have hm:k∈o:=hp.mem_iff.2 (List.mem_range.2 hk);have a0:=hp.nodup_iff.2 List.nodup_range;obtain⟨p,a1,rfl⟩:=List.mem_iff_getElem.1 hm;rw[li hp hs a1];constructor
 ·intro h;obtain⟨i,hi,he⟩:=List.mem_iff_getElem.1 h;rw[bg] at hi;rw[List.getElem_take] at he;have:=(fm a0).1 he
  omega
 ·intro h;refine List.mem_iff_getElem.2 ⟨p,by rw[bg];omega,?_⟩;rw[List.getElem_take]
def Eh{R:Nat→Int}{n i j:Nat}(hi:i<n)(hj:j<n)(h:jI R n i=jI R n j):i=j:=by
 obtain⟨o,hp,hs⟩:=Ei R n;have a0:i∈o:=hp.mem_iff.2 (List.mem_range.2 hi);have a1:j∈o:=hp.mem_iff.2 (List.mem_range.2 hj);obtain⟨p,a2,rfl⟩:=List.mem_iff_getElem.1 a0;obtain⟨q,a3,rfl⟩:=List.mem_iff_getElem.1 a1;rw[li hp hs a2,li hp hs a3] at h;subst h;rfl
def eQ(n:Nat)(f:Nat→Int):Int:=(List.range n).foldl (fun s k=>s+f k) 0
def mo(f:Nat→Int):eQ 0 f=0:=rfl
def gC(n:Nat)(f:Nat→Int):eQ (n+1) f=eQ n f+f n:=by
 unfold eQ;rw[gh,cB];rfl
def yq{n:Nat}{f g:Nat→Int}(h:∀k,k<n→f k=g k):eQ n f=eQ n g:=by
 induction n with
 | zero=>rfl
 | succ n ih=>rw[gC,gC,ih (fun k hk=>h k ab),h n ab]
def DV(n:Nat)(f g:Nat→Int):eQ n (fun k=>f k+g k)=eQ n f+eQ n g:=by
 induction n with
 | zero=>rfl
 | succ n ih=>rw[gC,gC,gC,ih];omega
def ub(n:Nat)(c:Int)(f:Nat→Int):eQ n (fun k=>c*f k)=c*eQ n f:=by
 induction n with
 | zero=>simp[mo]
 | succ n ih=>rw[gC,gC,ih,Int.mul_add]
def lA{n:Nat}{f g:Nat→Int}(h:∀k,k<n→f k≤g k):eQ n f≤eQ n g:=by
 induction n with
 | zero=>exact bG _
 | succ n ih=>rw[gC,gC];have:=ih (fun k hk=>h k ab);have:=h n ab;omega
def ny(n:Nat)(c:Int):eQ n (fun _=>c)=n*c:=by
 induction n with
 | zero=>simp[mo]
 | succ n ih=>rw[gC,ih,Int.natCast_succ,Int.add_mul,Int.one_mul]
def CK(l:LL1):lsum l=eQ l.length (fun k=>l[k]!.2.2):=by
 unfold eQ;rw[mw l l.length (aI _),jA]
def pu(l:LL1)(n:Int):iI l n=n - eQ l.length (shQ l n):=rfl
def ug{l:LL1}{n:Int}(hl:∀x∈l,LotOk x)(h0:l≠[]):0≤iI l n∧iI l n<l.length:=by
 have a0:0<l.length:=List.length_pos_iff.2 h0;have hs:=jO hl a0
 have h1:eQ l.length (fun k=>lsum l*shQ l n k+shR l n k)=eQ l.length (fun k=>n*l[k]!.2.2) :=
  yq (fun k _=>by unfold shQ shR;exact Int.mul_ediv_add_emod _ _)
 rw[DV,ub,ub,←CK] at h1
 have h2:eQ l.length (shR l n)≤eQ l.length (fun _=>lsum l - 1):=lA (fun k _=>by
  have:=dS (n*l[k]!.2.2) hs
  unfold shR;omega)
 have h3:eQ l.length (fun _=>(0:Int))≤eQ l.length (shR l n):=lA (fun k _=>eA _ ab);rw[ny] at h2 h3
 have h4:lsum l*iI l n=eQ l.length (shR l n):=by
  rw[pu,Int.mul_sub];rw[Int.mul_comm (lsum l) n];omega
 have h5:0≤lsum l*iI l n:=by rw[h4];omega
 have h6:lsum l*iI l n<lsum l*l.length:=by
  rw[h4]
  have:(l.length:Int)*(lsum l - 1)<lsum l*l.length:=by
   rw[Int.mul_sub,Int.mul_one,Int.mul_comm];omega
  omega
 exact⟨Int.nonneg_of_mul_nonneg_right h5 hs,Int.lt_of_mul_lt_mul_left h6 ab⟩
def gQ(a b:LL1):lsum (a++b)=lsum a+lsum b:=by
 have h:∀(l:LL1) (s:Int),l.foldl (fun s x=>s+x.2.2) s=s+l.foldl (fun s x=>s+x.2.2) 0:=by
  intro l;induction l with
  | nil=>intro s;simp
  | cons x l ih=>intro s;simp only[fF];rw[ih,ih (0+x.2.2)];omega
 unfold lsum;rw[cB,h]
def ga(x:Lot):lsum [x]=x.2.2:=by simp[lsum]
def CL(l:LL1)(x:Lot):lsum (ba l x)=lsum l+x.2.2:=by
 unfold ba;split
 ·omega
 ·split
  ·rename_i h;obtain⟨h1,_⟩:=h
   have e:l=l.take (l.length - 1)++[l[l.length - 1]!]:=by
    conv=>lhs;rw[←dq (l.length - 1) l,dO ab,bM ab]
    rw[getElem!_of ab]
   have e2:l.set (l.length - 1) (l[l.length - 1]!.1,l[l.length - 1]!.2.1,l[l.length - 1]!.2.2+x.2.2)=l.take (l.length - 1)++[(l[l.length - 1]!.1,l[l.length - 1]!.2.1,l[l.length - 1]!.2.2+x.2.2)]:=by
    rw[List.set_eq_take_append_cons_drop,if_pos ab,bM ab]
   have e3:lsum l=lsum (l.take (l.length - 1))+l[l.length - 1]!.2.2:=by
    conv=>lhs;rw[e]
    rw[gQ,ga]
   rw[e2,gQ,ga,e3];dsimp only;omega
  ·rw[gQ,ga]
end
section
open Go.V
attribute [local irreducible] G GO GP GPW GPK Ev Ef EfR Ent CB GB V.Enters
abbrev tSrt:Nat:=255
abbrev srtC(b3 b1:Nat)(c:CatV):LH:=[obj b3 tSrt [.func (.func 188) #[] #[aq b1]],obj b1 tCat c.cells]
def we{r:RuV}{L:LH}:Ent (ruP r::L) (amS r.take::amS r.give::amS r.back::ruP r::L):=(Ent.dup (jp r).pers).trans pz
def HN(b3 b1:Nat)(c:CatV)(hc:c.items.length≤64)(r:RuV)(h:RuGood c.items.length r.m):fG 190 [aq b3] bj ruP (cY (srtC b3 b1 c)) r:=by
 intro L;have hl:=h.lim;change r.take.l.length+r.give.l.length≤64∧r.take.l.length+r.back.l.length≤64 at hl;refine Tri.bd (args:=[aN (bj r),aq b3]) ?_;refine G.ent (Ent.openS.trans (Ent.d7 (Ent.d7 we))) ?_;refine IF ?_;intros;refine GO.ent (Ent.at (A:=amS r.take) (Ent.at (A:=obj b1 tCat c.cells) (Ent.refl _))) ?_;refine GO.ef (Ef.d8 rfl rfl (rR b1 c r.take.ad r.take.cap r.take.l ab hc h.take)) ag ?_;rintro _ _⟨rfl,rfl⟩;refine IF ?_;intros;refine GO.ent (Ent.at (A:=amS r.give) (Ent.at (A:=obj b1 tCat c.cells) (Ent.refl _))) ?_;refine GO.ef (Ef.d8 rfl rfl (rR b1 c r.give.ad r.give.cap r.give.l ab hc h.give)) ag ?_;rintro _ _⟨rfl,rfl⟩;refine IF ?_;intros;refine GO.ent (Ent.at (A:=amS r.back) (Ent.at (A:=obj b1 tCat c.cells) (Ent.refl _))) ?_;refine GO.ef (Ef.d8 rfl rfl (rR b1 c r.back.ad r.back.cap r.back.l ab hc h.back)) ag ?_;rintro _ _⟨rfl,rfl⟩;refine IF ?_;intros;refine GO.cr (va _ r h) ?_;refine IF ?_;intros;(first|refine GO.ef (Ef.call (Au (L:=[]) c.items.length r.take.ad r.back.ad r.take.cap r.back.cap r.take.l r.back.l ab ab h.take h.back h.cont) rfl cT) ag ?_);rintro _ _⟨_,⟨rfl,rfl⟩,hL⟩;simp only[ak,aj] at hL;subst hL;refine IF ?_;intros;refine KX.d7 av ?_ ⟨rfl,rfl⟩;refine Ent.trans ?_ Ent.l9;simp only[ak,aj];exact ah
def GZ(b3 b1:Nat)(c:CatV)(hc:c.items.length≤64)(r:RwV)(hl:r.give.l.length≤64)(h:fS c.items.length r.give.l):fG 195 [aq b3] du rwP (cY (srtC b3 b1 c)) r:=by
 intro L;refine Tri.bd (args:=[aN (du r),aq b3]) ?_;refine G.ent Ent.openS ?_;simp only[ak,aj];refine IF ?_;intros;refine GO.ent (Ent.at (A:=amS r.give) (Ent.at (A:=obj b1 tCat c.cells) (Ent.refl _))) ?_;refine GO.ef (Ef.d8 rfl rfl (rR b1 c r.give.ad r.give.cap r.give.l hl hc h)) ag ?_;rintro _ _⟨rfl,rfl⟩;refine IF ?_;intros;refine KX.d7 av ?_ ⟨rfl,rfl⟩;refine Ent.trans ?_ Ent.l9;simp only[ak,aj];exact ah
def rj{t:TbV}{L:LH}:Ent (tbP t::L) (isl du 2 t.ad t.rows::allP rwP t.rows::tbP t::L):=(Ent.dup (jn t).pers).trans Ent.andE
def nb{n:Nat}{t:TbV}(h:TbGood n t.m):(0<t.rows.length∧t.rows.length≤64)∧∀r∈t.rows,RwGood n r.m:=by
 have h1:=h.rows;have h2:=h.good;simp only[TbV.m,aA] at h1 h2;exact⟨h1,fun r hr=>h2 _ (alStd0List_mem_map_of_mem hr)⟩
def HM(b3 b1:Nat)(c:CatV)(hc:c.items.length≤64)(t:TbV)(hB:t.B)(h:TbGood c.items.length t.m):fG 193 [aq b3] bK tbP (cY (srtC b3 b1 c)) t:=by
 intro L;obtain⟨⟨r1,r2⟩,r3⟩:=nb h;refine Tri.bd (args:=[aN (bK t),aq b3]) ?_;refine G.ent (Ent.d7 rj) ?_;refine IF ?_;intros;(first|refine GO.ef (Ef.call (pU (L:=[]) _ [aq b3] (cY (srtC b3 b1 c)) t.ad t.cap t.rows r2 (fun r hr=>GZ b3 b1 c hc r (hB.2 r hr) (r3 r hr).give)) rfl cT) ag ?_);rintro _ _⟨_,⟨rfl,rfl⟩,hL⟩;simp only[ak,aj] at hL;subst hL;refine IF ?_;intros;exact KX.en ⟨rfl,rfl⟩
abbrev Ce:=ar7 [.ev 13]
def LE{φ ψ:Prop}(k:ψ)(h:Hid ψ→φ:=by intro k;(repeat (first|refine aa ?_|intro zzz|refine G.dr 37 6 Ce ?_));(repeat revert zzz);exact Hid.out k):φ:=h ⟨k⟩
def vM(t:TxV)(h:TxGood t.m):fG 196 [] bN txP (dy True) t:=by
 intro L;obtain⟨h1,h2⟩:=h.brs;change 0<t.brs.length at h1;change t.brs.length≤16 at h2;have h3:t.brs[(0:Int).toNat]!.1=0:=h.first;have h4:∀i,i+1<t.brs.length→t.brs[i]!.1<t.brs[i+1]!.1:=h.srt;refine Tri.bd (args:=[aN (bN t)]) ?_;refine G.ent (L':=isl aV 2 t.ad t.brs::dy True::L) (by unfold txP;exact ah) ?_;refine LE ?_;intros;rename_i b1;refine G.loop (α:=Nat) (fun i=>1≤i∧i≤t.brs.length) (fun i=>[(1,aq b1),(3,ac (i:Int))]) (fun _=>obj b1 160 (bN t)::isl aV 2 t.ad t.brs::dy True::L) (fun i=>t.brs.length - i) 1 ⟨ab,ab⟩ an ah ?_;rintro i ⟨a0,a1⟩;by_cases a2:i<t.brs.length
 case neg =>
  refine LE ?_;intros;refine KX.d7 av ?_ ⟨rfl,rfl⟩;unfold txP;exact ah
 have h5:=h4 (i - 1) ab;rw[show i - 1+1=i by omega] at h5
 have h6:t.brs[((i:Int) - 1).toNat]!.1<t.brs[(i:Int).toNat]!.1:=by
  rw[show((i:Int) - 1).toNat=i - 1 by omega,show(i:Int).toNat=i by omega];exact h5
 refine LE ?_;intros;refine⟨i+1,⟨ab,ab⟩,ab,?_,by exact ah⟩;rw[aU i];exact an
def uV{L:LH}(c:CatV)(hB:c.B)(h:CatGood c.m):Tri ai 114 #[aN c.cells] (catS c (cn::L)) (rtQ (.bool true) (catS c (cn::L))):=by
 obtain⟨l1,l2,l3,l4⟩:=lens h;refine Tri.bd ?_;simp only[catS];refine IF ?_;intros;rename_i b1 b3;refine GO.ent (Ent.pure trivial (nQ c.items)) ?_;simp only[CatV.cells];refine IF ?_;intros;(first|refine GO.ef (Ef.call (pV (L:=[]) _ [] (dy True) c.iad c.icap c.items l1 (fun x hx=>vh x (h.it x hx))) rfl cT) ag ?_);rintro _ _⟨_,⟨rfl,rfl⟩,hL⟩;simp only[ak,aj] at hL;subst hL;refine IF ?_;intros;refine GO.ent (L':=cY (srtC b3 b1 c)::dy True::isl be 7 c.iad c.items::isl bj 9 c.rad c.rules::allP ruP c.rules::isl bK 2 c.tad c.tables::allP tbP c.tables::isl bN 2 c.xad c.taxes::allP txP c.taxes::cn::L) ?_ ?_
 ·refine Ent.trans ?_ Ent.l9;simp only[srtC,CatV.cells,ak,aj];exact ah
 (first|refine GO.ef (Ef.call (nu (L:=[]) _ [aq b3] (cY (srtC b3 b1 c)) c.rad c.rcap c.rules l2 (fun r hr=>HN b3 b1 c l1 r (oT h r hr))) rfl cT) ag ?_);rintro _ _⟨_,⟨rfl,rfl⟩,hL⟩;simp only[ak,aj] at hL;subst hL;refine GO.ent (Ent.openS (A:=srtC b3 b1 c)) ?_;simp only[srtC,CatV.cells,ak,aj];refine IF ?_;intros;refine GO.ent (L':=cY (srtC b3 b1 c)::dy True::isl be 7 c.iad c.items::isl bj 9 c.rad c.rules::allP ruP c.rules::isl bK 2 c.tad c.tables::allP tbP c.tables::isl bN 2 c.xad c.taxes::allP txP c.taxes::cn::L) ?_ ?_
 ·refine Ent.trans ?_ Ent.l9;simp only[srtC,CatV.cells,ak,aj];exact ah
 (first|refine GO.ef (Ef.call (nt (L:=[]) _ [aq b3] (cY (srtC b3 b1 c)) c.tad c.tcap c.tables ab (fun r hr=>HM b3 b1 c l1 r (hB.tb r hr) (mZ h r hr))) rfl cT) ag ?_);rintro _ _⟨_,⟨rfl,rfl⟩,hL⟩;simp only[ak,aj] at hL;subst hL;refine GO.ent (Ent.openS (A:=srtC b3 b1 c)) ?_;simp only[srtC,CatV.cells,ak,aj];refine IF ?_;intros;(first|refine GO.ef (Ef.call (ns (L:=[]) _ [] (dy True) c.xad c.xcap c.taxes ab (fun r hr=>vM r (oS h r hr))) rfl cT) ag ?_);rintro _ _⟨_,⟨rfl,rfl⟩,hL⟩;simp only[ak,aj] at hL;subst hL;refine IF ?_;intros;exact KX.en ⟨rfl,rfl⟩
def Hy(a:Int×Int)(h:1≤a.2∧a.2≤1099511627776):fG 199 [] aV noP (dy True) a:=by
 intro L;obtain⟨h1,h2⟩:=h;refine Tri.bd (args:=[aN (aV a)]) ?_;refine IF ?_;intros;exact KX.d7 av Ent.drop ⟨by rw[aZ h2];rfl,rfl⟩
def sL{L:LH}(n:Nat)(ad:OA)(cap:Nat)(l:List (Int×Int))(hl:l.length≤64)(h:fS n l):Tri ai 197 #[ae ad l.length cap] (isl aV 2 ad l::L) (rtQ (.bool true) (isl aV 2 ad l::L)):=by
 refine Tri.bd ?_;refine IF ?_;intros;refine GO.ent (Ent.pure trivial (nQ l)) ?_;(first|refine GO.ef (Ef.call (Fb (L:=[]) _ [] (dy True) ad cap l hl (fun a ha=>Hy a (h.1 a ha).2.2)) rfl cT) ag ?_);rintro _ _⟨_,⟨rfl,rfl⟩,hL⟩;simp only[ak,aj] at hL;subst hL;refine IF ?_;intros;exact KX.en ⟨rfl,rfl⟩
def tI(x:ItG)(h:ItGood x):fG 200 [] be noP (dy True) x:=by
 intro L;obtain⟨h1,h2,h3⟩:=h.num;refine Tri.bd (args:=[aN (be x)]) ?_;cases hx:x.obj with
 | true =>
  obtain⟨f1,f2⟩:=h1 hx;have e:be x=[.string x.name,.bool true,.bool x.mixed,.bool x.coin,ac x.wear,ac x.bind,ac x.level]:=by unfold be;rw[hx]
  rw[e];refine IF ?_;intros;exact KX.d7 av Ent.drop ⟨by rw[aZ h3];rfl,rfl⟩
 | false =>
  have e:be x=[.string x.name,.bool false,.bool x.mixed,.bool x.coin,ac x.wear,ac x.bind,ac x.level]:=by unfold be;rw[hx]
  rw[e];refine IF ?_;intros;exact KX.d7 av Ent.drop ⟨by rw[aZ h3];rfl,rfl⟩
def tz{L:LH}(n:Nat)(r:RuV)(h:RuGood n r.m):Tri ai 202 #[aN (bj r)] L (rtQ (.bool true) L):=by
 obtain⟨⟨h1,h2⟩,⟨h3,h4⟩,⟨h5,h6⟩,h7,h8⟩:=h.num;change 0≤r.level at h1;change r.level≤100 at h2;change 0≤r.time at h3;change r.time≤1000000 at h4;change 1≤r.of_ at h5;change r.of_≤1000000 at h6;change 1≤r.chance at h7;change r.chance≤r.of_ at h8;refine Tri.bd ?_;refine IF ?_;intros;exact KX.d7 av Ent.drop ⟨by rw[aZ h8];rfl,rfl⟩
abbrev untC(b3:Nat):HP:=obj b3 tSrt [.func (.func 197) #[] #[]]
def If(b3 n:Nat)(r:RuV)(h:RuGood n r.m):fG 201 [aq b3] bj ruP (untC b3) r:=by
 intro L;have hl:=h.lim;change r.take.l.length+r.give.l.length≤64∧r.take.l.length+r.back.l.length≤64 at hl;refine Tri.bd (args:=[aN (bj r),aq b3]) ?_;refine G.ent (Ent.d7 we) ?_;refine IF ?_;intros;refine GO.ent (Ent.at (A:=amS r.take) (Ent.refl _)) ?_;refine GO.ef (Ef.d8 rfl rfl (sL n r.take.ad r.take.cap r.take.l ab h.take)) ag ?_;rintro _ _⟨rfl,rfl⟩;refine IF ?_;intros;refine GO.ent (Ent.at (A:=amS r.give) (Ent.refl _)) ?_;refine GO.ef (Ef.d8 rfl rfl (sL n r.give.ad r.give.cap r.give.l ab h.give)) ag ?_;rintro _ _⟨rfl,rfl⟩;refine IF ?_;intros;refine GO.ent (Ent.at (A:=amS r.back) (Ent.refl _)) ?_;refine GO.ef (Ef.d8 rfl rfl (sL n r.back.ad r.back.cap r.back.l ab h.back)) ag ?_;rintro _ _⟨rfl,rfl⟩;refine IF ?_;intros;refine GO.cr (tz n r h) ?_;refine IF ?_;intros;exact KX.en ⟨rfl,rfl⟩
def GY(n:Nat)(r:RwV)(h:RwGood n r.m):fG 252 [] du rwP (dy True) r:=by
 intro L;obtain⟨h1,h2⟩:=h.num;change 1≤r.weight at h1;change r.weight≤1099511627776 at h2;refine Tri.bd (args:=[aN (du r)]) ?_;refine IF ?_;intros;exact KX.d7 av Ent.drop ⟨by rw[aZ h2];rfl,rfl⟩
def qF{L:LH}(n:Nat)(t:TbV)(h:TbGood n t.m):Tri ai 204 #[aN (bK t)] (tbP t::L) (rtQ (.bool true) (tbP t::L)):=by
 obtain⟨⟨r1,r2⟩,r3⟩:=nb h;refine Tri.bd ?_;refine G.ent rj ?_;refine IF ?_;intros;refine GO.ent (Ent.pure trivial (Ent.refl _)) ?_;(first|refine GO.ef (Ef.call (pU (L:=[]) _ [] (dy True) t.ad t.cap t.rows r2 (fun r hr=>GY n r (r3 r hr))) rfl cT) ag ?_);rintro _ _⟨_,⟨rfl,rfl⟩,hL⟩;simp only[ak,aj] at hL;subst hL;refine IF ?_;intros;exact KX.en ⟨rfl,rfl⟩
def Hx(b3 n:Nat)(r:RwV)(hl:r.give.l.length≤64)(h:fS n r.give.l):fG 205 [aq b3] du rwP (untC b3) r:=by
 intro L;refine Tri.bd (args:=[aN (du r),aq b3]) ?_;refine IF ?_;intros;refine GO.ent (Ent.at (A:=amS r.give) (Ent.refl _)) ?_;refine GO.ef (Ef.d8 rfl rfl (sL n r.give.ad r.give.cap r.give.l hl h)) ag ?_;rintro _ _⟨rfl,rfl⟩;refine IF ?_;intros;exact KX.en ⟨rfl,rfl⟩
def Ie(b3 n:Nat)(t:TbV)(hB:t.B)(h:TbGood n t.m):fG 203 [aq b3] bK tbP (untC b3) t:=by
 intro L;obtain⟨⟨r1,r2⟩,r3⟩:=nb h;refine Tri.bd (args:=[aN (bK t),aq b3]) ?_;refine IF ?_;intros;(first|refine GO.ef (Ef.call (qF (L:=[]) n t h) rfl cT) ag ?_);rintro _ _⟨_,⟨rfl,rfl⟩,hL⟩;simp only[ak,aj] at hL;subst hL;refine GO.ent rj ?_;refine IF ?_;intros;(first|refine GO.ef (Ef.call (pU (L:=[]) _ [aq b3] (untC b3) t.ad t.cap t.rows r2 (fun r hr=>Hx b3 n r (hB.2 r hr) (r3 r hr).give)) rfl cT) ag ?_);rintro _ _⟨_,⟨rfl,rfl⟩,hL⟩;simp only[ak,aj] at hL;subst hL;refine IF ?_;intros;exact KX.en ⟨rfl,rfl⟩
def Ha(b:Int×Int)(h:(0≤b.1∧b.1≤1099511627776)∧0≤b.2∧b.2≤10000):fG 254 [] aV noP (dy True) b:=by
 intro L;obtain⟨⟨h1,h2⟩,h3,h4⟩:=h;refine Tri.bd (args:=[aN (aV b)]) ?_;refine IF ?_;intros;exact KX.d7 av Ent.drop ⟨by rw[aZ h4];rfl,rfl⟩
def uX(t:TxV)(h:TxGood t.m):fG 206 [] bN txP (dy True) t:=by
 intro L;obtain⟨h1,h2⟩:=h.brs;change 0<t.brs.length at h1;change t.brs.length≤16 at h2;refine Tri.bd (args:=[aN (bN t)]) ?_;refine G.ent (L':=isl aV 2 t.ad t.brs::dy True::L) (by unfold txP;exact ah) ?_;refine IF ?_;intros;refine GO.ent (nQ t.brs) ?_;(first|refine GO.ef (Ef.call (Fa (L:=[]) _ [] (dy True) t.ad t.cap t.brs ab (fun b hb=>Ha b (h.num b hb))) rfl cT) ag ?_);rintro _ _⟨_,⟨rfl,rfl⟩,hL⟩;simp only[ak,aj] at hL;subst hL;refine IF ?_;intros;refine KX.d7 av ?_ ⟨rfl,rfl⟩;unfold txP;exact ah
def CS{L:LH}(c:CatV)(hB:c.B)(h:CatGood c.m):Tri ai 115 #[aN c.cells] (catS c (cn::L)) (rtQ (.bool true) (catS c (cn::L))):=by
 obtain⟨l1,l2,l3,l4⟩:=lens h;refine Tri.bd ?_;simp only[catS,CatV.cells];refine IF ?_;intros;rename_i b1 b3;refine GO.ent (Ent.pure trivial (nQ c.items)) ?_;(first|refine GO.ef (Ef.call (pV (L:=[]) _ [] (dy True) c.iad c.icap c.items l1 (fun x hx=>tI x (h.it x hx))) rfl cT) ag ?_);rintro _ _⟨_,⟨rfl,rfl⟩,hL⟩;simp only[ak,aj] at hL;subst hL;refine IF ?_;intros;(first|refine GO.ef (Ef.call (nu (L:=[]) _ [aq b3] (untC b3) c.rad c.rcap c.rules l2 (fun r hr=>If b3 _ r (oT h r hr))) rfl cT) ag ?_);rintro _ _⟨_,⟨rfl,rfl⟩,hL⟩;simp only[ak,aj] at hL;subst hL;refine IF ?_;intros;(first|refine GO.ef (Ef.call (nt (L:=[]) _ [aq b3] (untC b3) c.tad c.tcap c.tables ab (fun r hr=>Ie b3 _ r (hB.tb r hr) (mZ h r hr))) rfl cT) ag ?_);rintro _ _⟨_,⟨rfl,rfl⟩,hL⟩;simp only[ak,aj] at hL;subst hL;refine IF ?_;intros;(first|refine GO.ef (Ef.call (ns (L:=[]) _ [] (dy True) c.xad c.xcap c.taxes ab (fun r hr=>uX r (oS h r hr))) rfl cT) ag ?_);rintro _ _⟨_,⟨rfl,rfl⟩,hL⟩;simp only[ak,aj] at hL;subst hL;refine IF ?_;intros;exact KX.en ⟨rfl,rfl⟩
def uN{L:LH}(c:CatV)(hB:c.B)(h:CatGood c.m):Tri ai 62 #[aN c.cells] (catP c::cn::L) (rtQ (ac 0) (catP c::cn::L)):=by
 refine Tri.bd ?_;refine G.ent (L':=catS c (cn::catP c::L)) (catS_open.trans (by simp only[catS];exact ah)) ?_;simp only[CatV.cells];refine IF ?_;intros;rename_i b1;refine GO.ent (L':=catS c (cn::obj b1 tCat c.cells::catP c::L)) (by simp only[catS,CatV.cells];exact ah) ?_;refine GO.cr (rP c h) ?_;simp only[catS,CatV.cells];refine IF ?_;intros;refine GO.ent (L':=catS c (cn::obj b1 tCat c.cells::catP c::L)) (by simp only[catS,CatV.cells];exact ah) ?_;refine GO.cr (Ag c h) ?_;simp only[catS,CatV.cells];refine IF ?_;intros;refine GO.ent (L':=catS c (cn::obj b1 tCat c.cells::catP c::L)) (by simp only[catS,CatV.cells];exact ah) ?_;refine GO.cr (tE c h) ?_;simp only[catS,CatV.cells];refine IF ?_;intros;refine GO.ent (L':=catS c (cn::obj b1 tCat c.cells::catP c::L)) (by simp only[catS,CatV.cells];exact ah) ?_;refine GO.cr (uV c hB h) ?_;simp only[catS,CatV.cells];refine IF ?_;intros;refine GO.ent (L':=catS c (cn::obj b1 tCat c.cells::catP c::L)) (by simp only[catS,CatV.cells];exact ah) ?_;refine GO.cr (CS c hB h) ?_;simp only[catS,CatV.cells];refine IF ?_;intros;refine KX.d7 av ?_ ⟨rfl,rfl⟩;exact ah
end
end Go.Proofs.YtommnllbflbdmaaGreatDoor
namespace Go.V
def Ent.l5{L R:LH}{α:Type}{enc:α→LV}{sz b T:Nat}{cs:LV}[h:PickObj L b T cs R](xs:List α)(hc:cs=xs.flatMap enc)(hs:∀x∈xs,(enc x).length=sz)(hm:xs.length≤9223372036854775807):Ent L (isl enc sz (some ⟨b,0,none⟩) xs::R) :=
 (Ent.perm h.perm).trans ((Ent.e9 hc rfl hs hm).trans Ent.freezeSl)
end Go.V
namespace Go.Proofs.YtommnllbflbdmaaGreatDoor
open Go.V
attribute [local irreducible] G GO GP GPW GPK Ev Ef EfR Ent CB GB V.Enters
def iB{r:RuV}{L:LH}:Ent (amS r.take::amS r.give::amS r.back::L) (ruP r::L):=(Ent.d7 (Ent.e8 (jB _) (jB _))).trans (Ent.e8 (jB _) ((jB _).and (jB _)))
def it16:List ItG:=[⟨⟨#[103,111,108,100]⟩,false,true,true,0,0,0⟩,⟨⟨#[111,114,101]⟩,false,false,false,0,0,0⟩,⟨⟨#[99,111,97,108]⟩,false,true,false,0,0,0⟩,⟨⟨#[98,97,114]⟩,false,false,false,0,0,0⟩,⟨⟨#[115,119,111,114,100]⟩,true,false,false,20,2,3⟩]
def Dt:CatM:=⟨it16,[⟨⟨#[100,105,103]⟩,true,0,0,1,1,[],[(1,4),(2,3)],[]⟩,⟨⟨#[115,109,101,108,116]⟩,false,2,5,2,3,[(1,2),(2,1)],[(3,1)],[(1,1)]⟩,⟨⟨#[102,111,114,103,101]⟩,false,3,10,1,1,[(3,3)],[(4,1)],[]⟩,⟨⟨#[115,99,114,97,112]⟩,false,0,1,1,1,[(4,1)],[(3,3)],[]⟩,⟨⟨#[115,101,108,108]⟩,false,0,1,1,1,[(3,1)],[(0,7)],[]⟩],[⟨⟨#[99,104,101,115,116]⟩,[⟨5,[(0,10)]⟩,⟨1,[(3,2)]⟩]⟩],[⟨⟨#[115,97,108,101]⟩,[(0,500),(100,1000)]⟩]⟩
def fJ{s:ByteArray}(h:(1≤s.size∧s.size≤16)∧fQ s 0=3∧∀i:Nat,i<s.size→fQ s i=3∨fQ s i=4∨fQ s i=5):IsWord s:=⟨h.1,h.2.1,h.2.2⟩
