/- Lemmas. -/
import Derived.Test.YtommnllbflbdmaaGreatDoorLbt
set_option linter.all false
set_option maxHeartbeats 4000000
namespace Go.Proofs.YtommnllbflbdmaaGreatDoor
section
open Go.V
def exS:StM:=⟨0,0,0,0,-1,0,[⟨0,1,0,5,[]⟩]⟩
def exT(n:Int):StM:=⟨0,2,0,0,-1,0,[⟨1,2,0,n,[]⟩]⟩
def exF0:FlM:=⟨0,0,0,0,0,0,1,0,5,[],[]⟩
def exF1(a:Int):FlM:=⟨1,1,2,0,0,1,2,0,3,[(0,a,3)],[]⟩
def exW1:Wk:=⟨upd2 (fun _ _=>[]) 1 0 [(0,0,5)],upd (fun _=>0) 0 5,[exF0],[]⟩
def exL1:LedM:={ led0 0 cat22 with stk:=exW1.stk,tot:=exW1.tot,steps:=[exS],flows:=[exF0] }
def exW2:Wk:=⟨upd2 (upd2 exW1.stk 1 0 [(0,3,2)]) 2 0 [(1,0,3)],upd exW1.tot 0 5,[exF1 0],[]⟩
def exL2:LedM:={ exL1 with stk:=exW2.stk,tot:=exW2.tot,steps:=[exS,(exT 3).at 1],flows:=[exF0,exF1 0] }
theorem exM1:iu 0 0 (bK cat22) exS (wk0 (led0 0 cat22)) exS.moves=(0,exW1):=rfl
theorem exG1:dN 0 [] (bK cat22) exS (wk0 (led0 0 cat22)) exS.moves=(0,exW1):=rfl
theorem exM2:iu 0 1 (bK cat22) ((exT 3).at 1) (wk0 exL1) (exT 3).moves=(0,exW2):=rfl
theorem exG2:dN 0 [exF0] (bK cat22) ((exT 3).at 1) (wk0 exL1) (exT 3).moves=(0,exW2):=rfl
theorem exG3:(dN 0 [exF0] (bK cat22) ((exT 6).at 1) (wk0 exL1) (exT 6).moves).1=10:=rfl
theorem Co{k:Int}(h:¬(k=5∨k=7∨k=9)):gi k=false:=by unfold gi;exact aF h
theorem exP(now:Int)(h:now=0){s:StM}(hs:s=exS∨s=exT 3∨s=exT 6):fL cat22 now s∧lI cat22 now s:=by
 subst h;rcases hs with rfl|rfl|rfl
 all_goals
  refine⟨⟨⟨by decide,by decide⟩,⟨by decide,by decide⟩,⟨by decide,by decide⟩,⟨by decide,by decide⟩,fun m hm=>?_,?_⟩,⟨⟨by decide,by decide⟩,⟨by decide,by decide,by decide⟩,⟨by decide,by decide⟩,fun m hm=>?_,?_⟩⟩
  ·rw[List.mem_singleton.1 hm]
   refine⟨⟨⟨by decide,by decide⟩,⟨by decide,by decide⟩,by decide,by decide,by decide,by decide,by decide⟩,?_⟩
   rw[Co ae,if_neg ae]
   rfl
  ·refine⟨fun m hm=>?_,rfl,rfl⟩
   rw[List.mem_singleton.1 hm]
   decide
  ·rw[List.mem_singleton.1 hm]
   refine aU ⟨⟨by decide,by decide⟩,⟨by decide,by decide⟩,⟨by decide,by decide⟩,⟨by decide,by decide⟩,by decide,?_,?_,rfl⟩
   ·unfold mA
    first|exact aU ae|(rw[if_pos ae];exact aU ae)|(rw[if_neg ae,if_neg ae];exact aU ae)
   ·unfold kTo
    rw[if_neg ae,if_neg ae]
    exact aU ae
  ·show jh _ _
   unfold jh
   rw[if_neg ae]
   exact⟨rfl,rfl⟩
theorem zt{S:LedM}{s:StM}(h1:¬65536≤S.steps.length)(h2:lI S.cat S.now s):tryM S s=iu S.shard S.flows.length (bK S.cat) (s.at (aR S)) (wk0 S) s.moves:=by
 unfold tryM;rw[if_neg h1,if_neg (not_not_intro h2)]
theorem te{S:LedM}{s:StM}(h1:¬65536≤S.steps.length)(h2:fL S.cat S.now s):gTry S s=dN S.shard S.flows (bK S.cat) (s.at (aR S)) (wk0 S) s.moves:=by
 unfold gTry;rw[if_neg h1,if_neg (not_not_intro h2)]
theorem DA:tryM (led0 0 cat22) exS=(0,exW1):=(zt (by show ¬65536≤0;decide) (exP 0 rfl (.inl rfl)).2).trans exM1
theorem BE:gTry (led0 0 cat22) exS=(0,exW1):=(te (by show ¬65536≤0;decide) (exP 0 rfl (.inl rfl)).1).trans exG1
theorem Dz:tryM exL1 (exT 3)=(0,exW2):=(zt (by show ¬65536≤1;decide) (exP 0 rfl (.inr (.inl rfl))).2).trans exM2
theorem uS:gTry exL1 (exT 3)=(0,exW2):=(te (by show ¬65536≤1;decide) (exP 0 rfl (.inr (.inl rfl))).1).trans exG2
theorem EX:(gTry exL1 (exT 6)).1=10:=(congrArg Prod.fst (te (by show ¬65536≤1;decide) (exP 0 rfl (.inr (.inr rfl))).1)).trans exG3
theorem lV(S:LedM)(s:StM)(id:Int):gTry S (s.at id)=gTry S s:=rfl
theorem zL:kA (led0 0 cat22) exS=exL1:=by
 have e:(tryM (led0 0 cat22) exS).1=0:=by rw[DA]
 unfold kA;rw[if_pos e];unfold lH;rw[DA];rfl
theorem Ge:kA exL1 (exT 3)=exL2:=by
 have e:(tryM exL1 (exT 3)).1=0:=by rw[Dz]
 unfold kA;rw[if_pos e];unfold lH;rw[Dz];rfl
theorem GZ:cT (led0 0 cat22) exS=exL1:=by
 have e:(gTry (led0 0 cat22) exS).1=0:=by rw[BE]
 unfold cT;rw[if_pos e];unfold gJ;rw[BE];rfl
theorem EY:cT exL1 ((exT 3).at 1)=exL2:=by
 have e:(gTry exL1 ((exT 3).at 1)).1=0:=by rw[lV,uS]
 unfold cT;rw[if_pos e];unfold gJ;rw[lV,uS];rfl
theorem wF(fl:List FlM)(s:StM)(h:fl=[exF0,exF1 0]∨fl=[exF0,exF1 1]):audF 0 cat22 [exS,s] fl=audG fl 1 exL1 [s]:=by
 unfold audF;rw[if_pos ae,ku,if_neg ae,if_neg (by rw[BE];decide),GZ];rw[if_neg];rintro (q|q)
 ·rcases h with rfl|rfl
  ·exact absurd q (by show ¬2<1;decide)
  ·exact absurd q (by show ¬2<1;decide)
 ·rcases h with rfl|rfl
  ·exact q rfl
  ·exact q rfl
theorem GJ:audF 0 cat22 [exS,(exT 3).at 1] [exF0,exF1 0]=(0,0,0):=by
 rw[wF _ _ (.inl rfl),ku,if_neg ae,if_neg (by rw[lV,uS];decide),EY,if_neg,rk,if_neg ae];rintro (q|q)
 ·exact absurd q (by show ¬2<2;decide)
 ·exact q rfl
theorem GI:audF 0 cat22 [exS,(exT 3).at 1] [exF0,exF1 1]=(20,0,1):=by
 rw[wF _ _ (.inr rfl),ku,if_neg ae,if_neg (by rw[lV,uS];decide),EY,if_pos]
 ·rfl
 ·refine .inr fun q=>?_;have e:exF1 0=exF1 1:=List.cons.inj q |>.1;have e2:((exF1 0).parts.head!).2.1=((exF1 1).parts.head!).2.1:=by rw[e]
  exact absurd e2 ae
theorem GH:audF 0 cat22 [exS,(exT 6).at 1] [exF0,exF1 1]=(10,0,1):=by
 rw[wF _ _ (.inr rfl),ku,if_neg ae,if_pos (by rw[lV,EX];decide),lV,EX];rfl
end
section
open Go.V
attribute [local irreducible] G GO GP GPW GPK Ev Ef EfR Ent CB GB V.Enters
structure AllI (f:Int→Int→Int) (l:List Hd):Prop where
 srt:l.Pairwise klt
 val:∀h∈l,h.2.2=f h.1 h.2.1
 all:∀a i,f a i≠0→(a,i,f a i)∈l
theorem BK{l:List Hd}{k:Nat}(h:k<l.length):l=l.take k++l[k]!::l.drop (k+1):=by
 conv=>lhs;rw[←fi k l,fG h]
theorem AllI.rep{f:Int→Int→Int}{l:List Hd}(h:AllI f l){k:Nat}(hk:k<l.length){n:Int}:AllI (updH f l[k]!.1 l[k]!.2.1 n) (l.take k++[(l[k]!.1,l[k]!.2.1,n)]++l.drop (k+1)):=by
 have hs:=h.srt;have hv:=h.val;have ha:=h.all;rw[BK hk] at hs hv ha;generalize l[k]! = y at *;generalize l.take k=p at *;generalize l.drop (k+1)=q at *;rw[aH,List.singleton_append];obtain⟨s1,s2,s3⟩:=List.pairwise_append.1 hs;obtain⟨t1,t2⟩:=List.pairwise_cons.1 s2;have hpk:∀x∈p,klt x y:=fun x hx=>s3 x hx y aw;refine⟨List.pairwise_append.2 ⟨s1,List.pairwise_cons.2 ⟨fun z hz=>t1 z hz,t2⟩,fun x hx z hz=>?_⟩,fun x hx=>?_,fun a i hne=>?_⟩
 ·rcases List.mem_cons.1 hz with e|hz
  ·rw[e];exact hpk x hx
  ·exact s3 x hx z (av _ hz)
 ·have hkey:∀z,klt z y∨klt y z→updH f y.1 y.2.1 n z.1 z.2.1=f z.1 z.2.1:=fun z hz=>by
   unfold updH;rw[if_neg (fun e=>by unfold klt at hz;omega)]
  rcases List.mem_append.1 hx with hx|hx
  ·rw[hkey x (.inl (hpk x hx))];exact hv x (cA _ hx)
  ·rcases List.mem_cons.1 hx with e|hx
   ·rw[e];unfold updH;rw[if_pos ⟨rfl,rfl⟩]
   ·rw[hkey x (.inr (t1 x hx))];exact hv x (cV _ (av _ hx))
 ·by_cases e:a=y.1∧i=y.2.1
  ·obtain⟨rfl,rfl⟩:=e;unfold updH;rw[if_pos ⟨rfl,rfl⟩];exact cV _ aw
  ·have e2:updH f y.1 y.2.1 n a i=f a i:=if_neg e;rw[e2] at hne ⊢;rcases List.mem_append.1 (ha a i hne) with hx|hx
   ·exact cA _ hx
   ·rcases List.mem_cons.1 hx with e3|hx
    ·exact absurd ⟨by rw[←e3],by rw[←e3]⟩ e
    ·exact cV _ (av _ hx)
theorem AllI.hold{f:Int→Int→Int}{l:List Hd}(h:AllI f l)(hI:HldI f):HoldL f (l.filter (fun x=>decide (0<x.2.2))):=by
 refine⟨h.srt.sublist gq,fun x=>?_⟩;rw[List.mem_filter];constructor
 ·rintro⟨h1,h2⟩;have h2:=of_decide_eq_true h2;exact⟨h.val x h1,ac⟩
 ·rintro⟨e1,e2⟩;have h3:=h.all x.1 x.2.1 (by rw[←e1];exact e2);have h4:=(hI.bd x.1 x.2.1).1;rw[←e1] at h3 h4;exact⟨h3,decide_eq_true ac⟩
abbrev CK:List Stp:=[.ev 0,.ev 1,.ev 2,.ev 3,.ev 5,.ev 6,.ev 7,.ev 8,.ef 4,.ef 9,.ef 10,.ef 11,.ev 12]
theorem iK{φ ψ:Prop}(k:ψ)(h:Hid ψ→φ:=by intro k;(with_reducible apply G.d8);first|refine G.d7 (N:=17) (id:=1) CK mixed ap (Hid.out k)):φ:=h ⟨k⟩
theorem zb{L:LH}(x y:Hd):Tri ah 57 #[.agg (gw x).toArray,.agg (gw y).toArray] L (fun v L'=>v=ab (hdC x y)∧L' = L):=by
 refine Tri.body (args:=[.agg (gw x).toArray,.agg (gw y).toArray]) 17 en57 Tryz.func57 rfl rfl rfl (by simp) ?_;repeat first|refine aa ?_|intro _|refine iK ?_
 refine GPW.ef (Ef.d7 (jP x.1 y.1) rfl) ae ?_;rintro _ _⟨rfl,rfl⟩;repeat first|refine aa ?_|intro _|refine iK ?_
 refine GPW.ef (Ef.d7 (jP x.2.1 y.2.1) rfl) ae ?_;rintro _ _⟨rfl,rfl⟩;repeat first|refine aa ?_|intro _|refine iK ?_
 rename_i bc;refine GPW.ent (Ent.e8 (enc:=encZ .i64) (sz:=1) (xs:=[cmpI x.1 y.1,cmpI x.2.1 y.2.1]) rfl rfl (fun _ _=>rfl) (by simp)) ?_;refine GPW.ef (Ef.d7 (nL (some ⟨bc,0,none⟩) 2 (cmpI x.1 y.1) (cmpI x.2.1 y.2.1)) rfl) ae ?_;rintro _ _⟨rfl,rfl⟩;repeat first|refine aa ?_|intro _|refine iK ?_
 exact KX.d7 ai ag ⟨rfl,rfl⟩
theorem vu{E cap:Nat}{ad:OA}{xs:List Hd}(hsz:xs.length<4611686018427387904) :
  Tri ah 56 #[.slice ad xs.length cap,.func (.func 57) #[] #[]] [osl gw 3 E ad cap xs] (fun v L'=>v=.tuple #[]∧∃ys,gh hdC xs ys∧L' = [osl gw 3 E ad cap ys]) :=
 Tri.d7 (ρ:=Tryz.sortH_ren) Tryz.sortH (k:=3) Tryz.isAgg112 Tryz.sizeOf112 (fun _=>rfl) ui (Lc:=[]) hdC zF en56 en57 (fun _ _ _=>trivial) (fun x y=>(zb (L:=[]) x y).mono (fun _ _ h=>h.1)) hsz
theorem tc{c:Prop}[Decidable c]{A:Prop}(h:¬c):if c then A else([]:List Hd)=[]:=by
 rw[if_neg h]
def hdX(p:(Int×Int)×Int):Hd:=(p.1.1,p.1.2,p.2)
theorem Dj{m:List ((Int×Int)×Int)}(hn:(m.map (·.1)).Nodup){xs ys:List Hd}(hx:xs.Perm ((m.filter (fun p=>decide (0<p.2))).map hdX))(hI:HldI (gFn m))(hy:gh hdC xs ys):HoldL (gFn m) ys:=by
 have hlk:∀p∈m,gFn m p.1.1 p.1.2=p.2:=fun p hp=>by
  unfold gFn glk;rw[kO hn hp];rfl
 have hp2:=hy.1.trans hx
 have hkn:(ys.map (fun h=>(h.1,h.2.1))).Nodup:=by
  refine((hp2.map _).nodup_iff).2 ?_;rw[eM];exact(List.Sublist.map (fun p:(Int×Int)×Int=>p.1) gq).nodup hn
 constructor
 ·have h2:=List.pairwise_map.1 hkn;refine(List.pairwise_and_iff.2 ⟨hy.2,h2⟩).imp (fun {a b} h=>?_);obtain⟨q1,q2⟩:=h;rw[nm] at q1;have q3:¬(a.1=b.1∧a.2.1=b.2.1):=fun e=>q2 (by rw[e.1,e.2]);unfold klt at q1 ⊢;omega
 ·intro h;rw[hp2.mem_iff,List.mem_map];constructor
  ·rintro⟨p,hp,rfl⟩;obtain⟨h1,h2⟩:=List.mem_filter.1 hp;have h2:=of_decide_eq_true h2;refine⟨(hlk p h1).symm,?_⟩;show p.2≠0;omega
  ·rintro⟨e1,e2⟩;obtain⟨a,i,n⟩:=h;dsimp only at e1 e2;have hb:=(hI.bd a i).1;cases hg:glk m (a,i) with
   | none =>
    unfold gFn at e1;rw[hg] at e1;exact absurd e1 e2
   | some k =>
    have hk:gFn m a i=k:=by
     unfold gFn;rw[hg];rfl
    refine⟨((a,i),k),List.mem_filter.2 ⟨jp hg,?_⟩,?_⟩
    ·refine decide_eq_true ?_;show 0<k;omega
    ·show(a,i,k)=(a,i,n);rw[e1,hk]
theorem sj{L:LH}(items:Int)(ad:OA)(n c:Nat)(ss:List StV)[hr:Rds L ad StV aJ 7 ss](hn:n=ss.length)(hl:ss.length≤1000000)(hm:(fE ss).length≤100000) :
  Tri ah 19 #[ab items,.slice ad n c] (allP bA ss::L) (fun v L'=>∃ad' cap' hs,v=.tuple #[.slice ad' hs.length cap',ab (resH items ss).1]∧(hs.length≤200000∧if(resH items ss).1=0 then HoldL (resH items ss).2 hs else hs=[])∧L' = osl gw 3 tHd ad' cap' hs::allP bA ss::L):=by
 subst hn;refine Tri.body (args:=[ab items,.slice ad ss.length c]) 88 en19 Tryz.func19 rfl rfl rfl (by simp) ?_;by_cases c1:0≤items
 case neg =>
  have e:resH items ss=(1,fun _ _=>0):=if_pos (fun q=>c1 q.1);rw[e];repeat first|refine aa ?_|intro
  exact KX.d7 ai (Ent.d8 gw 3 tHd) ⟨none,0,[],rfl,⟨by decide,rfl⟩,rfl⟩
 by_cases c2:items≤64
 case neg =>
  have e:resH items ss=(1,fun _ _=>0):=if_pos (fun q=>c2 q.2);rw[e];repeat first|refine aa ?_|intro
  exact KX.d7 ai (Ent.d8 gw 3 tHd) ⟨none,0,[],rfl,⟨by decide,rfl⟩,rfl⟩
 have e:resH items ss=hldF items (fE ss) (fun _ _=>0):=if_neg (fun q=>q ⟨c1,c2⟩);rw[e];repeat first|refine aa ?_|intro
 refine GO.ef (Ef.f7 kvP encN (.inl rfl)) ae ?_;rintro _ _⟨bm,rfl,rfl⟩;repeat first|refine aa ?_|intro
 rename_i bc;have hf0:gFn []=fun _ _=>0:=rfl;rw[←hf0];refine G.loop (α:=Nat×List ((Int×Int)×Int)) (fun g=>g.1≤ss.length∧HldI (gFn g.2)∧g.2.length+2*(fE (ss.drop g.1)).length≤2*(fE ss).length∧hldF items (fE ss) (gFn [])=hldF items (fE (ss.drop g.1)) (gFn g.2)) (fun g=>[(0,ab items),(6,au bc),(7,.func (.func 55) #[] #[au bc]),(25,.slice ad ss.length c),(26,ab ss.length),(27,ab (g.1:Int))]) (fun g=>obj bc 115 [.map (some bm)]::gmap kvP encN bm g.2::allP bA ss::L) (fun g=>ss.length - g.1) (0,[]) ⟨ao _,hld0,Nat.le_of_eq (de _),rfl⟩ aj (Ent.refl _) ?_;rintro⟨i,m⟩ ⟨hi,hmi,hml,het⟩;dsimp only at hi hmi hml het ⊢;by_cases hlt:i<ss.length
 case neg =>
  have e0:ss.drop i=[]:=bP ac;rw[e0] at het;have e1:hldF items (fE ss) (gFn [])=(0,gFn m):=het;rw[e1];refine G.f7 (nV (b:=bm) (m:=m) (kv:=kvP) (enc:=encN)) ?_;intro hnd;repeat first|refine aa ?_|intro
  refine GO.ef (Ef.l7 rfl) ae ?_;rintro _ _⟨r,rfl,rfl⟩;repeat first|refine aa ?_|intro
  refine G.loop (α:=OA×Nat×List ((Int×Int)×Int)) (fun z=>z.2.2.length≤m.length) (fun z=>[(14,.slice z.1 ((z.2.2.filter (fun p=>decide (0<p.2))).map hdX).length z.2.1),(68,au r)]) (fun z=>jx kvP encN bm m r z.2.2::osl gw 3 tHd z.1 z.2.1 ((z.2.2.filter (fun p=>decide (0<p.2))).map hdX)::allP bA ss::L) (fun z=>m.length - z.2.2.length) (none,0,[]) (ao _) aj (show Ent _ (jx kvP encN bm m r []::osl gw 3 tHd none 0 []::allP bA ss::L) from(Ent.d8 gw 3 tHd).trans ag) ?_;rintro⟨ad2,cap2,done⟩ hdl;dsimp only at hdl ⊢
  have hfl:((done.filter (fun p=>decide (0<p.2))).map hdX).length≤done.length:=by
   rw[aG];exact List.length_filter_le _ _
  have hml2:m.length≤200000:=ac;repeat first|refine aa ?_|intro
  refine GO.ef (Ef.l9 rfl) ae ?_;rintro _ _ (⟨rfl,rfl,hp⟩|⟨p,rfl,rfl,hpm,hpn,hl2⟩)
  ·have hdl2:=hp.length_eq;repeat first|refine aa ?_|intro _
   (first|refine GO.ef (Ef.call (vu (E:=tHd) (ad:=ad2) (cap:=cap2) (xs:=(done.filter (fun p=>decide (0<p.2))).map hdX) ac) rfl (by repeat (first|exact Ent.refl _|apply Ent.take))) ae ?_);rintro _ _⟨_,⟨rfl,ys,hys,rfl⟩,hL⟩;simp only[ax,aq] at hL;subst hL;repeat first|refine aa ?_|intro
   have hyl:=hys.1.length_eq;refine KX.d7 ai ?_ ⟨ad2,cap2,ys,by rw[hyl];rfl,⟨ac,?_⟩,rfl⟩
   ·exact ag
   ·rw[if_pos rfl];exact Dj hnd ((hp.filter _).map hdX) hmi hys
  ·repeat first|refine aa ?_|intro
   refine GO.ev (Ev.t8 (done:=done) rfl rfl) ae ?_;obtain⟨⟨a,it⟩,n⟩:=p;simp only[kvP,encN,bO,gm];by_cases hn0:0<n
   ·have hfa:(done++[((a,it),n)]).filter (fun p=>decide (0<p.2))=done.filter (fun p=>decide (0<p.2))++[((a,it),n)]:=by
     rw[dJ,cu (by simpa using hn0)];rfl
    repeat first|refine aa ?_|intro
    refine GO.ef (Ef.d8 (enc:=gw) (e:=(a,it,n)) rfl rfl rfl rfl rfl (by rfl) (ui _) ac ac) ae ?_;rintro _ _⟨ad3,cap3,rfl,rfl⟩;repeat first|refine aa ?_|intro
    refine⟨(ad3,cap3,done++[((a,it),n)]),by dsimp only;simp;omega,by dsimp only;simp;omega,?_,?_⟩
    ·dsimp only;rw[hfa,aZ];exact aj
    ·dsimp only;rw[hfa,aZ,show List.map hdX [((a,it),n)]=[(a,it,n)] from rfl];exact ag
   ·have hfa:(done++[((a,it),n)]).filter (fun p=>decide (0<p.2))=done.filter (fun p=>decide (0<p.2)):=by
     rw[dJ,cv (by simpa using hn0),List.filter_nil,ba]
    repeat first|refine aa ?_|intro
    refine⟨(ad2,cap2,done++[((a,it),n)]),by dsimp only;simp;omega,by dsimp only;simp;omega,?_,?_⟩
    ·dsimp only;rw[hfa];exact aj
    ·dsimp only;rw[hfa];exact ag
 have hii:(i:Int).toNat=i:=aA i;have hlt' : (i:Int).toNat<ss.length:=ac;rw[fG hlt,rZ] at het hml;rw[az,aG] at hml;repeat first|refine aa ?_|intro
 refine G.ent (Ent.at (A:=allP bA ss) (tG hlt)) ?_;rw[hii];generalize ss[i]! = s at *;refine G.loop (α:=Nat×List ((Int×Int)×Int)) (fun g=>g.1≤s.moves.length∧HldI (gFn g.2)∧g.2.length+2*((s.moves.length - g.1)+(fE (ss.drop (i+1))).length)≤2*(fE ss).length∧hldF items (fE ss) (gFn [])=hldF items ((s.moves.drop g.1).map MvV.m++fE (ss.drop (i+1))) (gFn g.2)) (fun g=>[(0,ab items),(6,au bc),(7,.func (.func 55) #[] #[au bc]),(25,.slice ad ss.length c),(26,ab ss.length),(27,ab (i:Int)),(32,.slice s.mad s.moves.length s.mcap),(33,ab s.moves.length),(34,ab (g.1:Int))]) (fun g=>isl aM 5 s.mad s.moves::obj bc 115 [.map (some bm)]::gmap kvP encN bm g.2::allP bA ss::L) (fun g=>s.moves.length - g.1) (0,m) ⟨ao _,hmi,by dsimp only;omega,het⟩ aj ag ?_;have hsl:s.moves.length≤100000:=ac;clear hmi hml het;rintro⟨j,m⟩ ⟨hj,hmi,hml,het⟩;dsimp only at hj hmi hml het ⊢;by_cases hlj:j<s.moves.length
 case neg =>
  have e0:s.moves.drop j=[]:=bP ac;rw[e0] at het;repeat first|refine aa ?_|intro
  refine⟨(i+1,m),⟨by dsimp only;omega,hmi,by dsimp only;omega,het⟩,by dsimp only;omega,?_,by exact ag⟩;dsimp only;rw[aP i];exact aj
 have hjj:(j:Int).toNat=j:=aA j;have hlj' : (j:Int).toNat<s.moves.length:=ac;rw[wd hlj,Dk] at het;repeat first|refine aa ?_|intro
 rw[hjj];rename_i b10;generalize s.moves[j]! = mv at *;refine GO.ef (Ef.d7 (ql items mv) rfl) ae ?_;rintro _ _⟨rfl,rfl⟩;by_cases hmo:kV items mv.m
 case neg =>
  have es:kl items (gFn m) mv.m=(1,gFn m):=if_pos hmo;rw[es,if_neg (show ¬(1:Int)=0 by decide)] at het;rw[aF hmo,het];repeat first|refine aa ?_|intro
  exact KX.d7 ai (Ent.trans ag (Ent.d8 gw 3 tHd)) ⟨none,0,[],rfl,⟨by decide,tc (show ¬(1:Int)=0 by decide)⟩,rfl⟩
 have es:kl items (gFn m) mv.m=if(chgH (gFn m) mv.m.frm mv.m.item (-mv.m.n)).1=0 then chgH (chgH (gFn m) mv.m.frm mv.m.item (-mv.m.n)).2 mv.m.to mv.m.item mv.m.n else((chgH (gFn m) mv.m.frm mv.m.item (-mv.m.n)).1,gFn m):=if_neg (fun q=>q hmo);rw[aU hmo];obtain⟨⟨k1,k2⟩,⟨k3,k4⟩,k5,k6⟩:=hmo;obtain⟨⟨frm,to,item,mn,parts⟩,pad,pcap⟩:=mv;dsimp only at k1 k2 k3 k4 k5 k6 es het ⊢;simp only[aM];repeat first|refine aa ?_|intro _
 (first|refine GO.ef (Ef.m5 rfl rfl (qy (L:=[]) bc bm m frm item (-mn) hmi ac) (by repeat (first|exact Ent.refl _|apply Ent.take))) ae ?_);rintro _ _⟨_,⟨m1,rfl,⟨e1,l1⟩,rfl⟩,hL⟩;simp only[ax,aq] at hL;subst hL;by_cases hc:(chgH (gFn m) frm item (-mn)).1=0
 case neg =>
  rw[if_neg hc] at es;rw[es,if_neg (show ¬(chgH (gFn m) frm item (-mn)).1=0 from hc)] at het;rw[het];generalize (chgH (gFn m) frm item (-mn)).1=ec at *;repeat first|refine aa ?_|intro
  exact KX.d7 ai (Ent.trans ag (Ent.d8 gw 3 tHd)) ⟨none,0,[],rfl,⟨by decide,tc (show ¬ec=0 from hc)⟩,rfl⟩
 rw[if_pos hc,←e1] at es;have hm1:HldI (gFn m1):=by rw[e1];exact hmi.chg
 rw[hc];repeat first|refine aa ?_|intro _
 (first|refine GO.ef (Ef.m5 rfl rfl (qy (L:=[]) bc bm m1 to item mn hm1 ac) (by repeat (first|exact Ent.refl _|apply Ent.take))) ae ?_);rintro _ _⟨_,⟨m2,rfl,⟨e2,l2⟩,rfl⟩,hL⟩;simp only[ax,aq] at hL;subst hL;by_cases hc2:(chgH (gFn m1) to item mn).1=0
 case neg =>
  rw[es,if_neg (show ¬(chgH (gFn m1) to item mn).1=0 from hc2)] at het;rw[het];generalize (chgH (gFn m1) to item mn).1=ec at *;repeat first|refine aa ?_|intro
  exact KX.d7 ai (Ent.trans ag (Ent.d8 gw 3 tHd)) ⟨none,0,[],rfl,⟨by decide,tc (show ¬ec=0 from hc2)⟩,rfl⟩
 rw[es,if_pos (show(chgH (gFn m1) to item mn).1=0 from hc2),←e2] at het;have hm2:HldI (gFn m2):=by rw[e2];exact hm1.chg
 rw[hc2];repeat first|refine aa ?_|intro
 refine⟨(j+1,m2),⟨by dsimp only;omega,hm2,by dsimp only;omega,het⟩,by dsimp only;omega,?_,by exact ag⟩;dsimp only;rw[aP j];exact aj
end
end Go.Proofs.YtommnllbflbdmaaGreatDoor
namespace Go.V
def BZ(M:Env→LH→Prop):Post:=fun e env L=>match e with
 | .normal=>M env L
 | _=>False
instance {M:Env→LH→Prop}:NoP (BZ M):=⟨fun _ _ _ h=>h,fun _ _ h=>h⟩
section
variable {P:Program}{N:Nat}{env:Env}{L:LH}{K:Post}
theorem KX.l6{M:Env→LH→Prop}(h:M env L):BZ M .normal env L:=h
theorem G.l0{α:Type}{x y:Code}(Inv:α→Prop)(e:α→Env)(l:α→LH)(h:G P N x env L (BZ fun env' L'=>∃g,Inv g∧EnvSub env' (e g)∧Ent L' (l g)))(h' : ∀g,Inv g→G P N y (e g) (l g) K):G P N (.seq x y) env L K :=
 G.seq (G.mono h (fun ex env' L' hx=>by
  cases ex with
  | normal=>obtain⟨g,h1,h2,h3⟩:=hx;exact(h' g h1).conseq h2 h3
  | _=>exact False.elim hx))
theorem Ent.under{A:LH}{p:HP}(h:Ent L (p::L)):Ent (A++L) (p::(A++L)) :=
 (Ent.append (Ent.refl A) h).trans (Ent.perm fB)
