/- Lemmas and contracts of functions. -/
import Derived.Test.YtommnllbflbdmaaGreatDoorGAuditTotalsao
set_option linter.all false
set_option maxHeartbeats 2000000
namespace Go.Proofs.YtommnllbflbdmaaGreatDoor
section
open Go.V
attribute [local irreducible] G GO GP GPW GPK Ev Ef EfR Ent CB GB Enters
section plain
variable {κ α:Type} [DecidableEq κ]
theorem qp (p:κ×α) (l:List (κ×α)) (k:κ):glk (p::l) k=if k=p.1 then some p.2 else glk l k:=by
 obtain ⟨q,a⟩:=p
 unfold glk
 rw [cK]
 by_cases h:k=q
 ·subst h;simp
 ·have hb:(k == q)=false:=by simpa using h
  simp only [hb,if_neg h]
theorem jD (m:List (κ×α)) (k q:κ) (a:α):glk (gins m k a) q=if q=k then some a else glk m q:=gE
theorem Dp (m:List (κ×α)) (k q:κ):glk (gera m k) q=if q=k then none else glk m q:=yd
theorem vB {l:List (κ×α)} {k:κ} (h:k∉l.map (·.1)):glk l k=none:=by
 induction l with
 | nil=>rfl
 | cons p l ih =>
  simp only [bE,be,not_or] at h
  rw [qp,if_neg h.1,ih h.2]
theorem vA {l l' : List (κ×α)} (hp:l.Perm l') (hn:(l'.map (·.1)).Nodup) (k:κ):glk l k=glk l' k:=by
 have hn2:(l.map (·.1)).Nodup:=(hp.map _).nodup_iff.2 hn
 cases h:glk l k with
 | some a=>exact (kn hn (hp.mem_iff.1 (iV h))).symm
 | none =>
  cases h2:glk l' k with
  | none=>rfl
  | some a =>
   have h3:glk l k=some a:=kn hn2 (hp.mem_iff.2 (iV h2))
   rw [h] at h3
   cases h3
def jP (m n:List (κ×α)):List (κ×α):=n.foldl (fun m p=>gins m p.1 p.2) m
theorem pK (k:κ):∀ (n m:List (κ×α)),(n.map (·.1)).Nodup→glk (jP m n) k=(glk n k).or (glk m k)
 | [],m,_=>rfl
 | p::n,m,hn=>by
  simp only [bE,dv] at hn
  have ih:=pK k n (gins m p.1 p.2) hn.2
  have e:jP m (p::n)=jP (gins m p.1 p.2) n:=rfl
  rw [e,ih,qp,jD]
  by_cases h:k=p.1
  ·rw [if_pos h,if_pos h,vB (h▸hn.1)]
   rfl
  ·rw [if_neg h,if_neg h]
end plain
def putS (m:List ((Int×Int)×Stk)) (p:(Int×Int)×Stk):List ((Int×Int)×Stk):=if p.2.lots.length=0 then gera m p.1 else gins m p.1 p.2
def gL (m n:List ((Int×Int)×Stk)):List ((Int×Int)×Stk):=n.foldl putS m
theorem qQ (m:List ((Int×Int)×Stk)) (p:(Int×Int)×Stk) (k:Int×Int):(fB (putS m p) k).lots=if k=p.1 then p.2.lots else (fB m k).lots:=by
 unfold fB putS
 by_cases h0:p.2.lots.length=0
 ·rw [if_pos h0,Dp]
  by_cases h:k=p.1
  ·rw [if_pos h,if_pos h,aQ h0];rfl
  ·rw [if_neg h,if_neg h]
 ·rw [if_neg h0,jD]
  by_cases h:k=p.1
  ·rw [if_pos h,if_pos h];rfl
  ·rw [if_neg h,if_neg h]
theorem nY (k:Int×Int):∀ (n m:List ((Int×Int)×Stk)),(n.map (·.1)).Nodup→(fB (gL m n) k).lots=((glk n k).getD (fB m k)).lots
 | [],m,_=>rfl
 | p::n,m,hn=>by
  simp only [bE,dv] at hn
  have ih:=nY k n (putS m p) hn.2
  have e:gL m (p::n)=gL (putS m p) n:=rfl
  rw [e,ih,qp]
  by_cases h:k=p.1
  ·rw [if_pos h,vB (h▸hn.1)]
   have h2:=qQ m p k
   rw [if_pos h] at h2
   exact h2
  ·rw [if_neg h]
   cases glk n k with
   | some s=>rfl
   | none =>
    have h2:=qQ m p k
    rw [if_neg h] at h2
    exact h2
theorem Db {m:List ((Int×Int)×Stk)} {p q:(Int×Int)×Stk} (h:q∈putS m p):q∈m∨(q=p∧p.2.lots≠[]):=by
 unfold putS at h
 split at h
 ·exact .inl (List.mem_filter.1 h).1
 ·rename_i h0
  rcases List.mem_cons.1 (vC q h) with h1|h1
  ·exact .inr ⟨h1,fun h=>h0 (by rw [h];rfl)⟩
  ·exact .inl h1
theorem ni {q:(Int×Int)×Stk}:∀ {n m:List ((Int×Int)×Stk)},q∈gL m n→q∈m∨(q∈n∧q.2.lots≠[])
 | [],m,h=>.inl h
 | p::n,m,h=>by
  rcases ni (n:=n) (m:=putS m p) h with h1|h1
  ·rcases Db h1 with h2|h2
   ·exact .inl h2
   ·exact .inr ⟨by rw [h2.1];exact ap ..,by rw [h2.1];exact h2.2⟩
  ·exact .inr ⟨ao _ h1.1,h1.2⟩
theorem AO (d s:Nat) (m n:List (Int×Int)) :
  Tri Tryz.prog 65 #[.map (some d),.map (some s)] [gmap kvI encN d m,gmap kvI encN s n] (fun _ L'=>∃ m',(∀ k,glk m' k=(glk n k).or (glk m k))∧L' = [gmap kvI encN d m']):=by
 refine Tri.body (args:=[.map (some d),.map (some s)]) 16 en65 Tryz.func65 rfl rfl rfl (by simp) ?_
 refine G.ent Ent.swap ?_
 refine G.f8 (nv (b:=s) (kv:=kvI) (enc:=encN) (m:=n)) ?_
 intro hn
 repeat first|refine aa ?_|intro
 refine GO.ef (Ef.l7 rfl) ac ?_
 rintro _ _ ⟨r,rfl,rfl⟩
 repeat first|refine aa ?_|intro
 refine G.loop (α:=List (Int×Int)) (fun z=>z.length≤n.length) (fun z=>[(0,.map (some d)),(7,.pointer (some ⟨r,0,none⟩))]) (fun z=>[jh kvI encN s n r z,gmap kvI encN d (jP m z)]) (fun z=>n.length - z.length) [] (al _) ai (Ent.refl _) ?_
 intro z hz
 repeat first|refine aa ?_|intro
 refine GO.ef (Ef.l9 rfl) ac ?_
 rintro _ _ (⟨rfl,rfl,hp⟩|⟨p,rfl,rfl,hpm,hpn,hl⟩)
 ·repeat first|refine aa ?_|intro
  refine KX.e8 ag Ent.drop ⟨jP m z,fun k=>?_,rfl⟩
  rw [pK k z m ((hp.map _).nodup_iff.2 hn),vA hp hn]
 repeat first|refine aa ?_|intro
 refine GO.ev (Ev.q7 (done:=z) rfl rfl) ac ?_
 repeat first|refine aa ?_|intro
 refine GO.efu (Ef.f7 (enc:=encN) (e:=p.2) rfl rfl rfl rfl) ?_
 rintro _ _ rfl
 repeat first|refine aa ?_|intro
 refine ⟨z++[p],by simp;omega,by simp;omega,ai,?_⟩
 rw [show jP m (z++[p])=gins (jP m z) p.1 p.2 by simp [jP]]
 exact ae
theorem rF (d s:Nat) (m:List (Int×Stk)) :
  Tri Tryz.prog 66 #[.map (some d),.map (some s)] [gmap kvI Stk.v d m,gmap kvI Stk.v s []] (fun _ L'=>L' = [gmap kvI Stk.v d m]):=by
 refine Tri.body (args:=[.map (some d),.map (some s)]) 16 en66 Tryz.func66 rfl rfl rfl (by simp) ?_
 refine G.ent Ent.swap ?_
 repeat first|refine aa ?_|intro
 refine GO.ef (Ef.l7 rfl) ac ?_
 rintro _ _ ⟨r,rfl,rfl⟩
 repeat first|refine aa ?_|intro
 refine G.e9 1 (GR.step ?_)
 repeat first|refine aa ?_|intro
 refine GO.ef (Ef.l9 rfl) ac ?_
 rintro _ _ (⟨rfl,rfl,hp⟩|⟨p,rfl,rfl,hpm,hpn,hl⟩)
 ·repeat first|refine aa ?_|intro
  exact KX.e8 ag Ent.drop rfl
 ·exact absurd hpm (by simp)
end
section
open Go.V
attribute [local irreducible] G GO GP GPW GPK Ev Ef EfR Ent CB GB Enters
noncomputable def ld (S:LedM) (s:StM):LedM:={ S with stk:=(tryM S s).2.stk,tot:=(tryM S s).2.tot,steps:=S.steps++[s.at (aK S)],flows:=S.flows++(tryM S s).2.flows }
open Classical in
noncomputable def jX (S:LedM) (s:StM):LedM:=if (tryM S s).1=0 then ld S s else S
noncomputable def zv (S:LedM) (s:StM):Int:=if (tryM S s).1=0 then aK S else 0
theorem Eu {o p:Option Int} {d:Int}:(o.or p).getD d=o.getD (p.getD d):=by cases o<;>rfl
theorem ro {sh:Int} {nf:Nat} {mix:Int→Bool} {s:StM} (hT:∀ mx,TakeC mx) (hsh:0≤sh):∀ (ms:List MvM) (W:Wk),W.Ok nf→(∀ m∈ms,1≤m.n∧m.n≤1099511627776)→(gM sh nf mix s W ms).1=0→(gM sh nf mix s W ms).2.Ok nf∧(gM sh nf mix s W ms).2.flows.length=W.flows.length+ms.length
 | [],W,hO,_,_=>⟨hO,rfl⟩
 | m::ms,W,hO,hn,he=>by
  have e:gM sh nf mix s W (m::ms)=if (gc sh nf mix s W m).1=0 then gM sh nf mix s (gc sh nf mix s W m).2 ms else ((gc sh nf mix s W m).1,W):=rfl
  rw [e] at he ⊢
  by_cases h:(gc sh nf mix s W m).1=0
  ·rw [if_pos h] at he ⊢
   obtain ⟨h1,h2⟩:=vo hO hT (hn m (ap ..)) hsh h
   obtain ⟨h3,h4⟩:=ro hT hsh ms _ h1 (fun m hm=>hn m (ao _ hm)) he
   refine ⟨h3,?_⟩
   rw [h4,h2,bj]
   omega
  ·rw [if_neg h] at he
   exact absurd he h
theorem yA {S:LedM} {s:StM} (hS:S.Ok) (hT:∀ mx,TakeC mx) (he:(tryM S s).1=0):S.steps.length<65536∧lg S.cat S.now s∧(tryM S s).2.Ok S.flows.length∧(tryM S s).2.flows.length=s.moves.length:=by
 unfold tryM at he ⊢
 by_cases h1:65536≤S.steps.length
 ·rw [if_pos h1] at he;exact absurd (show (4:Int)=0 from he) ab
 rw [if_neg h1] at he ⊢
 by_cases h2:lg S.cat S.now s
 case neg=>rw [if_pos h2] at he;exact absurd (show (1:Int)=0 from he) ab
 rw [if_neg (fun h=>h h2)] at he ⊢
 have h3:=ro hT hS.shard.1 s.moves (wk0 S) (Be hS) (fun m hm=>by
  have h4:=h2.2.2.2.1 m hm
  unfold gY at h4
  rw [ft] at h4
  exact (of_decide_eq_true h4).2.1) he
 exact ⟨ab,h2,h3.1,by rw [h3.2];simp [wk0]⟩
theorem Dd {S:LedM} {s:StM} (hS:S.Ok) (hT:∀ mx,TakeC mx):(jX S s).Ok:=by
 unfold jX
 split
 ·rename_i he
  obtain ⟨h1,h2,h3,h4⟩:=yA hS hT he
  have hl:=h2.2.2.1.2
  have hf:=hS.flows
  refine ⟨hS.shard,?_,?_,h3.stk,?_⟩
  ·simp only [ld,ax,bj,bZ];omega
  ·simp only [ld,ax,bj,bZ];omega
  ·intro i
   have:=h3.tot i
   simp only [ld,ax]
   rw [Int.natCast_add]
   exact this
 ·exact hS
abbrev zU:List Stp:=[.ev 0,.ev 1,.ev 2,.ev 3,.ev 4,.ef 5]
abbrev zT:List Stp:=[.ev 0,.ev 1,.ev 2,.ev 3,.ev 4,.ev 5,.ef 6]
abbrev wY:List Stp:=[.ev 0,.ev 1,.ev 2,.ev 3,.ev 4,.ev 5,.ev 6,.ev 7,.ef 8]
abbrev wX:List Stp:=[.ev 0,.ev 1,.ev 2,.ev 3,.ev 4,.ev 5,.ev 6,.ev 7,.ef 8]
abbrev wW:List Stp:=[.ev 0,.ev 1,.ev 2,.ev 3,.ev 4,.ev 5,.ev 6,.ev 7,.ef 8]
abbrev wV:List Stp:=[.ev 0,.ev 1,.ev 2,.ev 3,.ev 4,.ev 5,.ev 6,.ev 7,.ev 8,.ef 9,.ev 10,.ev 11,.ef 12]
abbrev wU:List Stp:=[.ev 0,.ev 1,.ev 2,.ev 3,.ev 4,.ev 5,.ev 6,.ev 7,.ev 8,.ef 9,.ef 10,.ev 11,.ev 12,.ef 13]
theorem cR {φ ψ:Prop} (k:ψ) (h:Hid ψ→φ:=by intro k;(with_reducible apply G.d8);first|refine G.d7 (N:=100) (id:=8) zU mixed an (Hid.out k)|refine G.d7 (N:=100) (id:=9) zT mixed an (Hid.out k)|refine G.d7 (N:=100) (id:=10) wY mixed an (Hid.out k)|refine G.d7 (N:=100) (id:=11) wX mixed an (Hid.out k)|refine G.d7 (N:=100) (id:=12) wW mixed an (Hid.out k)|refine G.d7 (N:=100) (id:=13) wV mixed an (Hid.out k)|refine G.d7 (N:=100) (id:=14) wU mixed an (Hid.out k)):φ:=h ⟨k⟩
theorem sH {L:List HP} (b:Nat) (S:LedM) (hS:S.Ok) (hc:S.cat.Ok) (s:StV) (hs:StIn s) (hT:∀ mx,TakeC mx) :
  Tri Tryz.prog 24 #[.pointer (some ⟨b,0,none⟩),.agg (aB s).toArray] (LedR b S::stM s::stP s::L) (fun v L'=>v=.tuple #[.int .i64 (zv S s.m),.int .i64 (tryM S s.m).1]∧L' = LedR b (jX S s.m)::stM s::stP s::L):=by
 obtain ⟨hsh1,hsh2⟩:=hS.shard
 have hsl:=hS.steps
 have hfl:=hS.flows
 refine Tri.body (args:=[.pointer (some ⟨b,0,none⟩),.agg (aB s).toArray]) 100 en24 Tryz.func24 rfl rfl rfl (by simp) ?_
 refine G.e8 (f:=ledA b S) ?_
 intro x
 simp only [ledA,ledL,aq,aj]
 refine G.f9 ?_
 intro hF
 have hxs:x.steps.length=S.steps.length:=by rw [← hF.steps];simp
 have hxf:x.flows.length=S.flows.length:=by rw [← hF.flows];simp
 repeat first|refine aa ?_|intro _|refine cR ?_
 refine GO.ent Ent.drop ?_
 refine GO.ef (Ef.d7 (CT b S hS hc x hF s hs hT) rfl) ac ?_
 rintro _ _ (⟨he,rfl,rfl⟩|⟨he,bc,s',z,rfl,⟨hs',hW⟩,rfl⟩)
 ·have e1:jX S s.m=S:=if_neg he
  have e2:zv S s.m=0:=if_neg he
  rw [e1,e2]
  repeat first|refine aa ?_|intro _|refine cR ?_
  exact KX.d7 ag (lC x hF) ⟨rfl,rfl⟩
 have e1:jX S s.m=ld S s.m:=if_pos he
 have e2:zv S s.m=aK S:=if_pos he
 obtain ⟨o1,o2,o3,o4⟩:=yA hS hT he
 have hml:s.m.moves.length≤64:=o2.2.2.1.2
 have hzl:z.flows.length≤64:=by
  have:=congrArg List.length hW.flows
  rw [aD] at this
  omega
 have hz0:0<z.flows.length:=by
  have h1:=congrArg List.length hW.flows
  rw [aD] at h1
  have h2:=o2.2.2.1.1
  omega
 have hsid:s'.id=aK S:=congrArg StM.id hs'
 rw [e1,e2,he]
 simp only [chL,ledL,eZ,eN]
 repeat first|refine aa ?_|intro _|refine cR ?_
 refine GO.e8 (nv (b:=z.cs) (kv:=kvP) (enc:=Stk.v) (m:=z.stk)) ?_
 intro hnd
 refine GO.ef (Ef.l7 rfl) ac ?_
 rintro _ _ ⟨r,rfl,rfl⟩
 repeat first|refine aa ?_|intro _|refine cR ?_
 refine G.loop (α:=List ((Int×Int)×Stk)) (fun g=>g.length≤z.stk.length) (fun _=>[(0,.pointer (some ⟨b,0,none⟩)),(6,.pointer (some ⟨bc,0,none⟩)),(23,.pointer (some ⟨r,0,none⟩))])
  (fun g=>jh kvP Stk.v z.cs z.stk r g::gmap kvP Stk.v x.ms (gL x.stk g)::obj bc tCh (eZ b s' z)::gmap kvI encN z.ct z.tot::gmap kvI Stk.v z.ci []::gmap kvI Stk.v z.cr []::osl bF 11 cq z.fad z.fcap z.flows::allP (fun p:(Int×Int)×Stk=>stkP p.2) z.stk::allP flP z.flows::obj b tLed (eN S.shard x)::gmap kvI encN x.mt x.tot::asl aB 7 aU x.sad x.scap x.steps::asl bF 11 cq x.fad x.fcap x.flows::gmap kvI Stk.v x.mi x.imp::gmap kvI Stk.v x.mr x.ret::catP x.cat::allP (fun p:(Int×Int)×Stk=>stkP p.2) x.stk::allP aX x.steps::allP flP x.flows::allP (fun p:Int×Stk=>stkP p.2) x.imp::allP (fun p:Int×Stk=>stkP p.2) x.ret::stM s'::stP s'::stM s::stP s::L)
  (fun g=>z.stk.length - g.length) [] (al _) ai ?_ ?_
 ·simp only [gL,List.foldl_nil]
  exact ae
 intro g hg
 simp only [eZ,eN]
 repeat first|refine aa ?_|intro _|refine cR ?_
 refine GO.ef (Ef.l9 rfl) ac ?_
 rintro _ _ (⟨rfl,rfl,hp⟩|⟨p,rfl,rfl,hpm,hpn,hl⟩)
 case inr =>
  have hpa:gL x.stk (g++[p])=putS (gL x.stk g) p:=by simp [gL]
  repeat first|refine aa ?_|intro _|refine cR ?_
  refine GO.ev (Ev.q7 (done:=g) rfl rfl) ac ?_
  simp only [kvP,Stk.v,bE,fQ]
  by_cases h0:p.2.lots.length=0
  ·have hpb:putS (gL x.stk g) p=gera (gL x.stk g) p.1:=if_pos h0
   repeat first|refine aa ?_|intro _|refine cR ?_
   refine GPW.efu (Ef.m9 rfl rfl) ?_
   rintro _ _ rfl
   repeat first|refine aa ?_|intro _|refine cR ?_
   refine ⟨g++[p],by simp;omega,by simp;omega,ai,?_⟩
   rw [hpa,hpb]
   exact ae
  ·have hpb:putS (gL x.stk g) p=gins (gL x.stk g) p.1 p.2:=if_neg h0
   repeat first|refine aa ?_|intro _|refine cR ?_
   refine GPW.efu (Ef.f7 (enc:=Stk.v) (e:=p.2) rfl rfl rfl rfl) ?_
   rintro _ _ rfl
   repeat first|refine aa ?_|intro _|refine cR ?_
   refine ⟨g++[p],by simp;omega,by simp;omega,ai,?_⟩
   rw [hpa,hpb]
   exact ae
 repeat first|refine aa ?_|intro _|refine cR ?_
 (first|refine GPW.ef (Ef.call (AO x.mt z.ct x.tot z.tot) rfl (by repeat (first|exact Ent.refl _|apply Ent.take))) ac ?_)
 rintro _ _ ⟨_,⟨m',hm',rfl⟩,hL⟩
 simp only [aq,aj] at hL;subst hL
 repeat first|refine aa ?_|intro _|refine cR ?_
 (first|refine GPW.ef (Ef.call (rF x.mi z.ci x.imp) rfl (by repeat (first|exact Ent.refl _|apply Ent.take))) ac ?_)
 rintro _ _ ⟨_,rfl,hL⟩
 simp only [aq,aj] at hL;subst hL
 repeat first|refine aa ?_|intro _|refine cR ?_
 (first|refine GPW.ef (Ef.call (rF x.mr z.cr x.ret) rfl (by repeat (first|exact Ent.refl _|apply Ent.take))) ac ?_)
 rintro _ _ ⟨_,rfl,hL⟩
 simp only [aq,aj] at hL;subst hL
 repeat first|refine aa ?_|intro _|refine cR ?_
 refine GPW.ef (Ef.m6 (enc:=bF) (ys:=z.flows) rfl rfl rfl rfl rfl hz0 (fun e _=>jj e) ab ab) ac ?_
 rintro _ _ ⟨fad2,fcap2,rfl,rfl⟩
 repeat first|refine aa ?_|intro _|refine cR ?_
 refine GPW.ef (Ef.l8 (enc:=aB) (e:=s') rfl rfl rfl rfl rfl (by rfl) (iB _) ab ab) ac ?_
 rintro _ _ ⟨sad2,scap2,rfl,rfl⟩
 repeat first|refine aa ?_|intro _|refine cR ?_
 rw [hsid]
 refine KX.d7 ag ?_ ⟨rfl,rfl⟩
 refine Ent.trans ?_ (lC (S:=ld S s.m) { x with stk:=gL x.stk g,tot:=m',steps:=x.steps++[s'],sad:=sad2,scap:=scap2,flows:=x.flows++z.flows,fad:=fad2,fcap:=fcap2 } ⟨hF.cat,hF.catB,?_,?_,?_,?_,?_,hF.imp,hF.ret⟩)
 ·simp only [ledL,eN,ld]
  refine (Ent.at (A:=stP s') (Ent.refl _)).trans ?_
  refine (Ent.at (A:=stM s') (Ent.refl _)).trans ?_
  refine (Ent.e9 (mV s') (cA gZ)).trans ?_
  refine (Ent.at (A:=allP aX x.steps) (Ent.refl _)).trans ?_
  refine ((Ent.d7 (Ent.f8 (f:=aX) (x:=s') ln)).trans (Ent.g8 ln)).trans ?_
  refine (Ent.at (A:=allP flP z.flows) (Ent.refl _)).trans ?_
  refine (Ent.at (A:=allP flP x.flows) (Ent.refl _)).trans ?_
  refine (Ent.g8 lW).trans ?_
  refine (Ent.at (A:=allP (fun p:(Int×Int)×Stk=>stkP p.2) z.stk) (Ent.refl _)).trans ?_
  refine (Ent.at (A:=allP (fun p:(Int×Int)×Stk=>stkP p.2) x.stk) (Ent.refl _)).trans ?_
  refine (Ent.g8 (f:=fun p:(Int×Int)×Stk=>stkP p.2) (fun p=>uy p.2)).trans ?_
  refine (Ent.l0 (l':=gL x.stk g) (fun q hq=>?_)).trans ?_
  ·rcases ni hq with h1|h1
   ·exact bQ _ h1
   ·exact bY _ (hp.mem_iff.1 h1.1)
  exact ae
 ·intro a i
  rw [nY _ _ _ ((hp.map _).nodup_iff.2 hnd),vA hp hnd]
  exact hW.stk a i
 ·intro q hq
  rcases ni hq with h1|h1
  ·exact hF.full q h1
  ·exact h1.2
 ·intro i
  dsimp only
  rw [hm',Eu]
  exact hW.tot i
 ·show (x.steps++[s']).map StV.m=S.steps++[s.m.at (aK S)]
  rw [aS,hF.steps,← hs']
  rfl
 ·show (x.flows++z.flows).map (·.m)=S.flows++(tryM S s.m).2.flows
  rw [aS,hF.flows]
  exact congrArg _ hW.flows
end
section
open Go.V
attribute [local irreducible] G GO GP GPW GPK Ev Ef EfR Ent CB GB Enters
theorem CatV.d7 {c c' : CatV} (h:c'.m=c.m) (hB:c.B):c'.B:=by
 obtain ⟨b1,b2,b3,b4,b5,b6,b7⟩:=hB
 have h1:c'.items=c.items:=congrArg CatM.items h
 have h2:c'.rules.map RuV.m=c.rules.map RuV.m:=congrArg CatM.rules h
 have h3:c'.tables.map TbV.m=c.tables.map TbV.m:=congrArg CatM.tables h
 have h4:c'.taxes.map TxV.m=c.taxes.map TxV.m:=congrArg CatM.taxes h
 have l2:c'.rules.length=c.rules.length:=by simpa using congrArg List.length h2
 have l3:c'.tables.length=c.tables.length:=by simpa using congrArg List.length h3
 have l4:c'.taxes.length=c.taxes.length:=by simpa using congrArg List.length h4
 refine ⟨by rw [h1];exact b1,ab,ab,ab,?_,?_,?_⟩
 ·intro r hr
  have hm:r.m∈c.rules.map RuV.m:=by rw [← h2];exact alStd0List_mem_map_of_mem hr
  obtain ⟨q,hq,hqe⟩:=List.mem_map.1 hm
  obtain ⟨q1,q2,q3⟩:=b5 q hq
  have t1:q.take.l=r.take.l:=congrArg RuM.take hqe
  have t2:q.give.l=r.give.l:=congrArg RuM.give hqe
  have t3:q.back.l=r.back.l:=congrArg RuM.back hqe
  exact ⟨by rw [← t1];exact q1,by rw [← t2];exact q2,by rw [← t3];exact q3⟩
 ·intro r hr
  have hm:r.m∈c.tables.map TbV.m:=by rw [← h3];exact alStd0List_mem_map_of_mem hr
  obtain ⟨q,hq,hqe⟩:=List.mem_map.1 hm
  obtain ⟨q1,q2⟩:=b6 q hq
  have t1:q.rows.map RwV.m=r.rows.map RwV.m:=congrArg TbM.rows hqe
  have t2:q.rows.length=r.rows.length:=by simpa using congrArg List.length t1
  refine ⟨by rw [← t2];exact q1,?_⟩
  intro w hw
  have hw2:w.m∈q.rows.map RwV.m:=by rw [t1];exact alStd0List_mem_map_of_mem hw
  obtain ⟨y,hy,hye⟩:=List.mem_map.1 hw2
  have t4:y.give.l=w.give.l:=congrArg RwM.give hye
  have:=q2 y hy
  unfold RwV.B at this ⊢
  rw [← t4]
  exact this
 ·intro r hr
  have hm:r.m∈c.taxes.map TxV.m:=by rw [← h4];exact alStd0List_mem_map_of_mem hr
  obtain ⟨q,hq,hqe⟩:=List.mem_map.1 hm
  have q1:=b7 q hq
  have t1:q.brs=r.brs:=congrArg TxM.brs hqe
  unfold TxV.B at q1 ⊢
  rw [← t1]
  exact q1
end
section
theorem Dm {u v y1 y0 B:Nat} (hv:v<B) (hy:0<y1) (h0:0<B):(u*B+v) / (y1*B+y0)≤u / y1:=by
 rw [Nat.le_div_iff_mul_le hy]
 have hd:(u*B+v) / (y1*B+y0)*(y1*B+y0)≤u*B+v:=Nat.div_mul_le_self _ _
 generalize (u*B+v) / (y1*B+y0)=q at *
 have h1:q*y1*B≤q*(y1*B+y0):=by rw [Nat.mul_add,Nat.mul_assoc];exact Nat.le_add_right _ _
 have h2:q*y1*B<(u+1)*B:=by rw [Nat.add_mul];omega
 have h3:=Nat.lt_of_mul_lt_mul_right h2
 omega
theorem yH {u v y1 y0 B q r:Nat} (hr:u=q*y1+r) (h:q*y0≤B*r+v):q*(y1*B+y0)≤u*B+v:=by
 subst hr
 rw [Nat.mul_add,Nat.add_mul,← Nat.mul_assoc,Nat.mul_comm r B]
 omega
theorem EA {u v y1 y0 B q r:Nat} (hr:u=q*y1+r) (h:B*r+v<q*y0) (hy:0<y1*B+y0):(u*B+v) / (y1*B+y0)<q:=by
 rw [Nat.div_lt_iff_lt_mul hy]
 subst hr
 rw [Nat.mul_add,Nat.add_mul,← Nat.mul_assoc,Nat.mul_comm r B]
 omega
theorem qm {u v y B:Nat} (hu:u<y) (hv:v<B) (hy:0<y):(u*B+v) / y<B:=by
 rw [Nat.div_lt_iff_lt_mul hy]
 have h1:(u+1)*B≤y*B:=Nat.mul_le_mul_right _ hu
 rw [Nat.add_mul] at h1
 rw [Nat.mul_comm B y]
 omega
theorem Dn {u v y1 y0 B q r:Nat} (hr:u=q*y1+r) (hB:B≤r) (hq:q≤B) (hy:y0<B):q*(y1*B+y0)≤u*B+v:=by
 refine yH hr ?_
 have h1:q*y0≤B*y0:=Nat.mul_le_mul_right _ hq
 have h2:B*y0≤B*r:=Nat.mul_le_mul_left _ (by omega)
 omega
theorem DI {n y q:Nat} (hy:0<y) (h1:n / y≤q) (h2:q*y≤n):q=n / y:=by
 have h3:q≤n / y:=(Nat.le_div_iff_mul_le hy).2 h2
 omega
end
section
open Go.V
theorem kZ (l:List Lot):∀ i,i≤l.length→(List.range i).foldl (fun s k=>s+l[k]!.2.2) 0=lsum (l.take i):=by
 intro i
 induction i with
 | zero=>intro _;simp [lsum]
 | succ i ih =>
  intro hi
  rw [dU,cg,ih ab,dI l ab]
  rfl
theorem gi (l:List Lot):lsum (l.take l.length)=lsum l:=by rw [aA (aw _)]
theorem pw {f g:Nat→Int}:∀ (n:Nat),(∀ k,k<n→f k=g k)→(List.range n).foldl (fun s k=>s+f k) 0=(List.range n).foldl (fun s k=>s+g k) (0:Int):=by
 intro n
 induction n with
 | zero=>intro _;rfl
 | succ n ih =>
  intro h
  rw [dU,cg,cg,ih (fun k hk=>h k ab)]
  simp [h n ab]
theorem jf {l:List Lot} (h:∀ x∈l,LotOk x) {k:Nat} (hk:k<l.length):0<lsum l:=by
 have h1:=fX h k ab
 have h2:=dI l hk
 have h3:=h _ (aG hk)
 unfold LotOk at h3
 have h4:∀ j,k+1≤j→j≤l.length→lsum (l.take (k+1))≤lsum (l.take j):=by
  intro j
  induction j with
  | zero=>intro h;omega
  | succ j ih =>
   intro hj hjl
   rcases bG k j with h5|h5
   ·have h6:=ih ab ab
    have h7:=dI l (show j<l.length by omega)
    have h8:=h _ (aG (show j<l.length by omega))
    unfold LotOk at h8
    omega
   ·obtain rfl:j=k:=ab
    exact aW _
 have h5:=h4 l.length ab (aw _)
 rw [gi] at h5
 omega
theorem Bo {l:List Lot} {n:Int} (hl:∀ x∈l,LotOk x) (h0:0≤n) (h1:n≤lsum l) (k:Nat) (hk:k<l.length):0≤shC l n k∧shC l n k≤l[k]!.2.2:=by
 have hs:=jf hl hk
 have hw:=hl _ (aG hk)
 unfold LotOk at hw
 have hq0:0≤shQ l n k:=iu (da h0 ab) ab
 unfold shC
 rcases Int.lt_or_le n (lsum l) with hlt|hge
 ·have hq1:shQ l n k<l[k]!.2.2:=by
   unfold shQ
   refine Int.ediv_lt_of_lt_mul hs ?_
   rw [Int.mul_comm]
   exact Int.mul_lt_mul_of_pos_left hlt ab
  constructor
  ·split<;>omega
  ·split<;>omega
 ·have hn:n=lsum l:=ab
  have hqe:∀ j,shQ l n j=l[j]!.2.2:=by
   intro j
   unfold shQ
   rw [hn]
   exact Int.mul_ediv_cancel_left _ ab
  have hleft:eU l n=0:=by
   unfold eU
   rw [pw (g:=fun j=>l[j]!.2.2) l.length (fun j _=>hqe j),kZ l l.length (aw _),gi]
   omega
  rw [hleft,hqe k]
  constructor
  ·split<;>omega
  ·rw [if_neg ab]
   omega
theorem mC (mixed:Bool) (l:List Lot) (n:Int) (hl:∀ x∈l,LotOk x) (h0:0≤n) (h1:n≤lsum l) (k:Nat) (hk:k<l.length):0≤tkC mixed l n k∧tkC mixed l n k≤l[k]!.2.2:=by
 unfold tkC
 split
 ·exact Bo hl h0 h1 k hk
 ·exact mO h0 (fun x h=>(hl x h).w) k hk
end
section
open Go.V
def rkLt (R:Nat→Int) (i j:Nat):Prop:=R j<R i∨(R i=R j∧i<j)
def dO (R:Nat→Int) (n k:Nat):Nat:=((List.range n).filter (fun j=>decide (R k<R j∨(R j=R k∧j<k)))).length
theorem mX (l:List Lot) (n:Int) (k:Nat):DG l n k=dO (shR l n) l.length k:=rfl
theorem iO {R:Nat→Int} {n:Nat} {o:List Nat} (hp:o.Perm (List.range n)) (hs:o.Pairwise (rkLt R)) {p:Nat} (h:p<o.length):dO R n o[p]=p:=by
 unfold dO
 rw [← (hp.filter _).length_eq]
 have hpw:=List.pairwise_iff_getElem.1 hs
 have e:o=o.take p++o[p]::o.drop (p+1):=by
  conv=>lhs;rw [← dT p o,dV h]
 have h1:(o.take p).filter (fun j=>decide (R o[p]<R j∨(R j=R o[p]∧j<o[p])))=o.take p:=by
  rw [List.filter_eq_self]
  intro x hx
  obtain ⟨i,hi,rfl⟩:=List.mem_iff_getElem.1 hx
  rw [ba] at hi
  rw [eK]
  have:=hpw i p ab h ab
  simpa [rkLt] using this
 have h2:(o.drop (p+1)).filter (fun j=>decide (R o[p]<R j∨(R j=R o[p]∧j<o[p])))=[]:=by
  rw [List.filter_eq_nil_iff]
  intro x hx
  obtain ⟨i,hi,rfl⟩:=List.mem_iff_getElem.1 hx
  rw [cL] at hi
  rw [List.getElem_drop]
  have:=hpw p (p+1+i) h ab ab
  unfold rkLt at this
  simp only [decide_eq_true_eq]
  omega
 have h3:(o.filter (fun j=>decide (R o[p]<R j∨(R j=R o[p]∧j<o[p])))).length=((o.take p++o[p]::o.drop (p+1)).filter (fun j=>decide (R o[p]<R j∨(R j=R o[p]∧j<o[p])))).length:=by rw [← e]
 rw [h3,cJ,h1,bT (by simp),h2]
 simp
 omega
theorem oq (R:Nat→Int) (n:Nat):∃ o:List Nat,o.Perm (List.range n)∧o.Pairwise (rkLt R):=by
 refine ⟨(List.range n).mergeSort (fun i j=>decide (R j<R i∨(R i=R j∧i≤j))),List.mergeSort_perm _ _,?_⟩
 have hp:=List.mergeSort_perm (List.range n) (fun i j=>decide (R j<R i∨(R i=R j∧i≤j)))
 have hnd:=hp.nodup_iff.2 List.nodup_range
 have hs:=List.pairwise_mergeSort (le:=fun i j=>decide (R j<R i∨(R i=R j∧i≤j))) (by intro a b c h1 h2;simp only [decide_eq_true_eq] at *;omega) (by intro a b;simp only [Bool.or_eq_true,decide_eq_true_eq];omega) (List.range n)
 rw [List.pairwise_iff_getElem] at hs ⊢
 intro i j hi hj hij
 have h1:=hs i j hi hj hij
 have h2:=(List.pairwise_iff_getElem.1 hnd) i j hi hj hij
 simp only [decide_eq_true_eq] at h1
 unfold rkLt
 omega
theorem uL {R:Nat→Int} {n:Nat} {o:List Nat} (hp:o.Perm (List.range n)) (hs:o.Pairwise (fun a b=>¬(R a<R b∨(R a=R b∧b<a)))):o.Pairwise (rkLt R):=by
 have hnd:=hp.nodup_iff.2 List.nodup_range
 rw [List.pairwise_iff_getElem] at hs ⊢
 intro i j hi hj hij
 have h1:=hs i j hi hj hij
 have h2:=(List.pairwise_iff_getElem.1 hnd) i j hi hj hij
 unfold rkLt
 omega
theorem gD {R:Nat→Int} {n:Nat} {o:List Nat} (hp:o.Perm (List.range n)) (hs:o.Pairwise (rkLt R)) {k m:Nat} (hk:k<n):k∈o.take m↔dO R n k<m:=by
 have hm:k∈o:=hp.mem_iff.2 (List.mem_range.2 hk)
 have hnd:=hp.nodup_iff.2 List.nodup_range
 obtain ⟨p,hpl,rfl⟩:=List.mem_iff_getElem.1 hm
 rw [iO hp hs hpl]
 constructor
 ·intro h
  obtain ⟨i,hi,he⟩:=List.mem_iff_getElem.1 h
  rw [ba] at hi
  rw [eK] at he
  have:=(eo hnd).1 he
  omega
 ·intro h
  refine List.mem_iff_getElem.2 ⟨p,by rw [ba];omega,?_⟩
  rw [eK]
theorem Ft {R:Nat→Int} {n m:Nat} (hm:m<n):∃ k,k<n∧dO R n k=m∧∀ j,j<n→j≠k→m≤dO R n j→rkLt R k j:=by
 obtain ⟨o,hp,hs⟩:=oq R n
 have hl:o.length=n:=by have:=hp.length_eq;simpa using this
 have hmo:m<o.length:=ab
 refine ⟨o[m],List.mem_range.1 (hp.mem_iff.1 (ej hmo)),iO hp hs hmo,?_⟩
 intro j hj hne hle
 have hjm:j∈o:=hp.mem_iff.2 (List.mem_range.2 hj)
 obtain ⟨p,hpl,rfl⟩:=List.mem_iff_getElem.1 hjm
 rw [iO hp hs hpl] at hle
 have hnm:p≠m:=by rintro rfl;exact hne rfl
 exact (List.pairwise_iff_getElem.1 hs) m p hmo hpl ab
theorem rg {R:Nat→Int} {n i j:Nat} (hi:i<n) (hj:j<n) (h:dO R n i=dO R n j):i=j:=by
 obtain ⟨o,hp,hs⟩:=oq R n
 have him:i∈o:=hp.mem_iff.2 (List.mem_range.2 hi)
 have hjm:j∈o:=hp.mem_iff.2 (List.mem_range.2 hj)
 obtain ⟨p,hpl,rfl⟩:=List.mem_iff_getElem.1 him
 obtain ⟨q,hql,rfl⟩:=List.mem_iff_getElem.1 hjm
 rw [iO hp hs hpl,iO hp hs hql] at h
 subst h
 rfl
def cF (n:Nat) (f:Nat→Int):Int:=(List.range n).foldl (fun s k=>s+f k) 0
theorem jl (f:Nat→Int):cF 0 f=0:=rfl
theorem dH (n:Nat) (f:Nat→Int):cF (n+1) f=cF n f+f n:=by
 unfold cF
 rw [dU,cg]
 rfl
theorem px {n:Nat} {f g:Nat→Int} (h:∀ k,k<n→f k=g k):cF n f=cF n g:=by
 induction n with
 | zero=>rfl
 | succ n ih=>rw [dH,dH,ih (fun k hk=>h k ab),h n ab]
theorem sD (n:Nat) (f g:Nat→Int):cF n (fun k=>f k+g k)=cF n f+cF n g:=by
 induction n with
 | zero=>rfl
 | succ n ih=>rw [dH,dH,dH,ih];omega
theorem Bi (n:Nat) (f g:Nat→Int):cF n (fun k=>f k - g k)=cF n f - cF n g:=by
 induction n with
 | zero=>rfl
 | succ n ih=>rw [dH,dH,dH,ih];omega
theorem sC (n:Nat) (c:Int) (f:Nat→Int):cF n (fun k=>c*f k)=c*cF n f:=by
 induction n with
 | zero=>simp [jl]
 | succ n ih=>rw [dH,dH,ih,Int.mul_add]
theorem ki {n:Nat} {f g:Nat→Int} (h:∀ k,k<n→f k≤g k):cF n f≤cF n g:=by
 induction n with
 | zero=>exact aW _
 | succ n ih=>rw [dH,dH];have:=ih (fun k hk=>h k ab);have:=h n ab;omega
theorem mh (n:Nat) (c:Int):cF n (fun _=>c)=n*c:=by
 induction n with
 | zero=>simp [jl]
 | succ n ih=>rw [dH,ih,Int.natCast_succ,Int.add_mul,Int.one_mul]
theorem si {f:Nat→Int} {l l' : List Nat} (h:l.Perm l'):∀ s:Int,l.foldl (fun s k=>s+f k) s=l'.foldl (fun s k=>s+f k) s:=by
 induction h with
 | nil=>intro s;rfl
 | cons x _ ih=>intro s;exact ih _
 | swap x y l=>intro s;simp only [fR];rw [show s+f y+f x=s+f x+f y by omega]
 | trans _ _ ih1 ih2=>intro s;rw [ih1,ih2]
theorem CZ (R:Nat→Int) {n m:Nat} (hm:m≤n):cF n (fun k=>if dO R n k<m then 1 else 0)=m:=by
 obtain ⟨o,hp,hs⟩:=oq R n
 have hl:o.length=n:=by have:=hp.length_eq;simpa using this
 unfold cF
 rw [← si hp]
 have h:∀ q,q≤n→(o.take q).foldl (fun (s:Int) k=>s+if dO R n k<m then 1 else 0) 0=min q m:=by
  intro q
  induction q with
  | zero=>intro _;simp
  | succ q ih =>
   intro hq
   rw [ay ab,cg,ih ab]
   simp only [fR,List.foldl_nil]
   rw [iO hp hs ab]
   split<;>omega
 have h2:=h n (aw _)
 rw [aA ab] at h2
 rw [h2]
 omega
theorem rp (l:List Lot):lsum l=cF l.length (fun k=>l[k]!.2.2):=by
 unfold cF
 rw [kZ l l.length (aw _),gi]
theorem jK (l:List Lot) (n:Int):eU l n=n - cF l.length (shQ l n):=rfl
theorem kH {l:List Lot} {n:Int} (hl:∀ x∈l,LotOk x) (h0:l≠[]):0≤eU l n∧eU l n<l.length:=by
 have hlen:0<l.length:=List.length_pos_iff.2 h0
 have hs:=jf hl hlen
 have h1:cF l.length (fun k=>lsum l*shQ l n k+shR l n k)=cF l.length (fun k=>n*l[k]!.2.2) :=
  px (fun k _=>by unfold shQ shR;exact Int.mul_ediv_add_emod _ _)
 rw [sD,sC,sC,← rp] at h1
 have h2:cF l.length (shR l n)≤cF l.length (fun _=>lsum l - 1):=ki (fun k _=>by
  have:=cX (n*l[k]!.2.2) hs
  unfold shR
  omega)
 have h3:cF l.length (fun _=>(0:Int))≤cF l.length (shR l n):=ki (fun k _=>cN _ ab)
 rw [mh] at h2 h3
 have h4:lsum l*eU l n=cF l.length (shR l n):=by
  rw [jK,Int.mul_sub]
  rw [Int.mul_comm (lsum l) n]
  omega
 have h5:0≤lsum l*eU l n:=by rw [h4];omega
 have h6:lsum l*eU l n<lsum l*l.length:=by
  rw [h4]
  have:(l.length:Int)*(lsum l - 1)<lsum l*l.length:=by
   rw [Int.mul_sub,Int.mul_one,Int.mul_comm]
   omega
  omega
 exact ⟨Int.nonneg_of_mul_nonneg_right h5 hs,Int.lt_of_mul_lt_mul_left h6 ab⟩
theorem Eo {l:List Lot} {n:Int} (hl:∀ x∈l,LotOk x) (h0:l≠[]):cF l.length (shC l n)=n:=by
 obtain ⟨h1,h2⟩:=kH (n:=n) hl h0
 have e:cF l.length (shC l n)=cF l.length (fun k=>shQ l n k+(if dO (shR l n) l.length k<(eU l n).toNat then 1 else 0)):=px (fun k _=>by
  unfold shC
  rw [mX]
  congr 1
  by_cases hb:dO (shR l n) l.length k<(eU l n).toNat
  ·rw [if_pos hb,if_pos ab]
  ·rw [if_neg hb,if_neg ab])
 rw [e,sD,CZ _ ab,jK] at *
 omega
theorem EG (l:List Lot) (m:Int):∀ k,fuR l m k=m - cF k (fuC l m):=by
 intro k
 induction k with
 | zero=>simp [fuR,jl]
 | succ k ih =>
  rw [dH]
  show fuR l m k - min (fuR l m k) l[k]!.2.2=_
  unfold fuC at *
  omega
theorem EH {l:List Lot} {m:Int} (hl:∀ x∈l,LotOk x) (h0:0≤m) (h1:m≤lsum l):cF l.length (fuC l m)=m:=by
 have h2:∀ k,k≤l.length→fuR l m k=max 0 (m - lsum (l.take k)):=by
  intro k
  induction k with
  | zero=>intro _;simp [fuR,lsum];omega
  | succ k ih =>
   intro hk
   have h3:=hl _ (aG (show k<l.length by omega))
   have h4:=fX hl k ab
   unfold LotOk at h3
   simp only [fuR]
   rw [ih ab,dI l ab]
   omega
 have h3:=h2 l.length (aw _)
 rw [gi,EG] at h3
 omega
theorem Ed {mixed:Bool} {l:List Lot} {n:Int} (hl:∀ x∈l,LotOk x) (h0:0≤n) (h1:n≤lsum l):cF l.length (tkC mixed l n)=n:=by
 unfold tkC
 split
 ·rename_i h
  refine Eo hl ?_
  rintro rfl
  simp [lsum] at h1
  omega
 ·exact EH hl h0 h1
theorem fV (a b:List Lot):lsum (a++b)=lsum a+lsum b:=by
 have h:∀ (l:List Lot) (s:Int),l.foldl (fun s x=>s+x.2.2) s=s+l.foldl (fun s x=>s+x.2.2) 0:=by
  intro l
  induction l with
  | nil=>intro s;simp
  | cons x l ih=>intro s;simp only [fR];rw [ih,ih (0+x.2.2)];omega
 unfold lsum
 rw [cg,h]
theorem gz (x:Lot):lsum [x]=x.2.2:=by simp [lsum]
theorem nq (l:List Lot) (x:Lot):lsum (aR l x)=lsum l+x.2.2:=by
 unfold aR
 split
 ·omega
 ·split
  ·rename_i h
   obtain ⟨h1,_⟩:=h
   have e:l=l.take (l.length - 1)++[l[l.length - 1]!]:=by
    conv=>lhs;rw [← dT (l.length - 1) l,dV ab,aY ab]
    rw [getElem!_of ab]
   have e2:l.set (l.length - 1) (l[l.length - 1]!.1,l[l.length - 1]!.2.1,l[l.length - 1]!.2.2+x.2.2)=l.take (l.length - 1)++[(l[l.length - 1]!.1,l[l.length - 1]!.2.1,l[l.length - 1]!.2.2+x.2.2)]:=by
    rw [List.set_eq_take_append_cons_drop,if_pos ab,aY ab]
   have e3:lsum l=lsum (l.take (l.length - 1))+l[l.length - 1]!.2.2:=by
    conv=>lhs;rw [e]
    rw [fV,gz]
   rw [e2,fV,gz,e3]
   dsimp only
   omega
  ·rw [fV,gz]
theorem Dy (l:List Lot) (cs:Nat→Int) (m:Nat):lsum (divR l cs m)=cF m (fun k=>l[k]!.2.2 - cs k):=by
 induction m with
 | zero=>rfl
 | succ m ih=>rw [me,nq,ih,dH];rfl
theorem BS {mixed:Bool} {l:List Lot} {n:Int} (hl:∀ x∈l,LotOk x) (h0:0≤n) (h1:n≤lsum l):lsum (dW mixed l n)=lsum l - n:=by
 unfold dW
 rw [Dy,Bi,Ed hl h0 h1,← rp]
end
end Go.Proofs.YtommnllbflbdmaaGreatDoor
