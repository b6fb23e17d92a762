/- Lemmas. -/
import Derived.Test.YtommnllbflbdmaaGreatDoorAbt
set_option linter.all false
set_option maxHeartbeats 4000000
namespace Go.V
def Ey(M:Env→LH→Prop):Post:=fun e env L=>match e with
 | .normal=>M env L
 | _=>False
instance {M:Env→LH→Prop}:NoP (Ey M):=⟨fun _ _ _ h=>h,fun _ _ h=>h⟩
section
variable {P:Program}{N:Nat}{env:Env}{L:LH}{K:Post}
def KX.l6{M:Env→LH→Prop}(h:M env L):Ey M .normal env L:=h
def G.l0{α:Type}{x y:Code}(Inv:α→Prop)(e:α→Env)(l:α→LH)(h:G P N x env L (Ey fun a0 L'=>∃g,Inv g∧EnvSub a0 (e g)∧Ent L' (l g)))(h' : ∀g,Inv g→G P N y (e g) (l g) K):G P N (.seq x y) env L K :=
 G.seq (G.mono h (fun ex a0 L' hx=>by
  cases ex with
  | normal=>obtain⟨g,h1,h2,h3⟩:=hx;exact(h' g h1).conseq h2 h3
  | _=>exact False.elim hx))
def Ent.under{A:LH}{p:HP}(h:Ent L (p::L)):Ent (A++L) (p::(A++L)) :=
 (Ent.append (Ent.refl A) h).trans (Ent.perm gm)
end
end Go.V
namespace Go.Proofs.YtommnllbflbdmaaGreatDoor
section
open Go.V
def exS:StM:=⟨0,0,0,0,-1,0,[⟨0,1,0,5,[]⟩]⟩
def exT(n:Int):StM:=⟨0,2,0,0,-1,0,[⟨1,2,0,n,[]⟩]⟩
def exF0:FlM:=⟨0,0,0,0,0,0,1,0,5,[],[]⟩
def exF1(a:Int):FlM:=⟨1,1,2,0,0,1,2,0,3,[(0,a,3)],[]⟩
def exW1:Wk:=⟨upd2 (fun _ _=>[]) 1 0 [(0,0,5)],upd (fun _=>0) 0 5,[exF0],[]⟩
def exL1:LedM:={ led0 0 cat22 with stk:=exW1.stk,tot:=exW1.tot,steps:=[exS],flows:=[exF0] }
def exW2:Wk:=⟨upd2 (upd2 exW1.stk 1 0 [(0,3,2)]) 2 0 [(1,0,3)],upd exW1.tot 0 5,[exF1 0],[]⟩
def exL2:LedM:={ exL1 with stk:=exW2.stk,tot:=exW2.tot,steps:=[exS,(exT 3).at 1],flows:=[exF0,exF1 0] }
def exM1:iW 0 0 (bA cat22) exS (wk0 (led0 0 cat22)) exS.moves=(0,exW1):=rfl
def exG1:cZ 0 [] (bA cat22) exS (wk0 (led0 0 cat22)) exS.moves=(0,exW1):=rfl
def exM2:iW 0 1 (bA cat22) ((exT 3).at 1) (wk0 exL1) (exT 3).moves=(0,exW2):=rfl
def exG2:cZ 0 [exF0] (bA cat22) ((exT 3).at 1) (wk0 exL1) (exT 3).moves=(0,exW2):=rfl
def exG3:(cZ 0 [exF0] (bA cat22) ((exT 6).at 1) (wk0 exL1) (exT 6).moves).1=10:=rfl
def ET{k:Int}(h:¬(k=5∨k=7∨k=9)):gN k=false:=by unfold gN;exact aG h
def exP(now:Int)(h:now=0){s:StM}(hs:s=exS∨s=exT 3∨s=exT 6):fN cat22 now s∧mI cat22 now s:=by
 subst h;rcases hs with rfl|rfl|rfl
 all_goals
  refine⟨⟨⟨by decide,by decide⟩,⟨by decide,by decide⟩,⟨by decide,by decide⟩,⟨by decide,by decide⟩,fun m hm=>?_,?_⟩,⟨⟨by decide,by decide⟩,⟨by decide,by decide,by decide⟩,⟨by decide,by decide⟩,fun m hm=>?_,?_⟩⟩
  ·rw[List.mem_singleton.1 hm]
   refine⟨⟨⟨by decide,by decide⟩,⟨by decide,by decide⟩,by decide,by decide,by decide,by decide,by decide⟩,?_⟩
   rw[ET ag,if_neg ag]
   rfl
  ·refine⟨fun m hm=>?_,rfl,rfl⟩
   rw[List.mem_singleton.1 hm]
   decide
  ·rw[List.mem_singleton.1 hm]
   refine aS ⟨⟨by decide,by decide⟩,⟨by decide,by decide⟩,⟨by decide,by decide⟩,⟨by decide,by decide⟩,by decide,?_,?_,rfl⟩
   ·unfold ns
    first|exact aS ag|(rw[if_pos ag];exact aS ag)|(rw[if_neg ag,if_neg ag];exact aS ag)
   ·unfold kTo
    rw[if_neg ag,if_neg ag]
    exact aS ag
  ·show jO _ _
   unfold jO
   rw[if_neg ag]
   exact⟨rfl,rfl⟩
def Br{S:LedM}{s:StM}(h1:¬65536≤S.steps.length)(h2:mI S.cat S.now s):tryM S s=iW S.shard S.flows.length (bA S.cat) (s.at (aO S)) (wk0 S) s.moves:=by
 unfold tryM;rw[if_neg h1,if_neg (not_not_intro h2)]
def uz{S:LedM}{s:StM}(h1:¬65536≤S.steps.length)(h2:fN S.cat S.now s):gTry S s=cZ S.shard S.flows (bA S.cat) (s.at (aO S)) (wk0 S) s.moves:=by
 unfold gTry;rw[if_neg h1,if_neg (not_not_intro h2)]
def Ga:tryM (led0 0 cat22) exS=(0,exW1):=(Br (by show ¬65536≤0;decide) (exP 0 rfl (.inl rfl)).2).trans exM1
def Eb:gTry (led0 0 cat22) exS=(0,exW1):=(uz (by show ¬65536≤0;decide) (exP 0 rfl (.inl rfl)).1).trans exG1
def FZ:tryM exL1 (exT 3)=(0,exW2):=(Br (by show ¬65536≤1;decide) (exP 0 rfl (.inr (.inl rfl))).2).trans exM2
def wj:gTry exL1 (exT 3)=(0,exW2):=(uz (by show ¬65536≤1;decide) (exP 0 rfl (.inr (.inl rfl))).1).trans exG2
def HF:(gTry exL1 (exT 6)).1=10:=(congrArg Prod.fst (uz (by show ¬65536≤1;decide) (exP 0 rfl (.inr (.inr rfl))).1)).trans exG3
def mQ(S:LedM)(s:StM)(id:Int):gTry S (s.at id)=gTry S s:=rfl
def BN:ln (led0 0 cat22) exS=exL1:=by
 have e:(tryM (led0 0 cat22) exS).1=0:=by rw[Ga]
 unfold ln;rw[if_pos e];unfold mH;rw[Ga];rfl
def Iy:ln exL1 (exT 3)=exL2:=by
 have e:(tryM exL1 (exT 3)).1=0:=by rw[FZ]
 unfold ln;rw[if_pos e];unfold mH;rw[FZ];rfl
def Jk:cS (led0 0 cat22) exS=exL1:=by
 have e:(gTry (led0 0 cat22) exS).1=0:=by rw[Eb]
 unfold cS;rw[if_pos e];unfold gt;rw[Eb];rfl
def HG:cS exL1 ((exT 3).at 1)=exL2:=by
 have e:(gTry exL1 ((exT 3).at 1)).1=0:=by rw[mQ,wj]
 unfold cS;rw[if_pos e];unfold gt;rw[mQ,wj];rfl
def yk(fl:List FlM)(s:StM)(h:fl=[exF0,exF1 0]∨fl=[exF0,exF1 1]):audF 0 cat22 [exS,s] fl=audG fl 1 exL1 [s]:=by
 unfold audF;rw[if_pos ag,lh,if_neg ag,if_neg (by rw[Eb];decide),Jk];rw[if_neg];rintro (q|q)
 ·rcases h with rfl|rfl
  ·exact absurd q (by show ¬2<1;decide)
  ·exact absurd q (by show ¬2<1;decide)
 ·rcases h with rfl|rfl
  ·exact q rfl
  ·exact q rfl
def Ja:audF 0 cat22 [exS,(exT 3).at 1] [exF0,exF1 0]=(0,0,0):=by
 rw[yk _ _ (.inl rfl),lh,if_neg ag,if_neg (by rw[mQ,wj];decide),HG,if_neg,sJ,if_neg ag];rintro (q|q)
 ·exact absurd q (by show ¬2<2;decide)
 ·exact q rfl
def IZ:audF 0 cat22 [exS,(exT 3).at 1] [exF0,exF1 1]=(20,0,1):=by
 rw[yk _ _ (.inr rfl),lh,if_neg ag,if_neg (by rw[mQ,wj];decide),HG,if_pos]
 ·rfl
 ·refine .inr fun q=>?_;have e:exF1 0=exF1 1:=List.cons.inj q |>.1;have e2:((exF1 0).parts.head!).2.1=((exF1 1).parts.head!).2.1:=by rw[e]
  exact absurd e2 ag
def IY:audF 0 cat22 [exS,(exT 6).at 1] [exF0,exF1 1]=(10,0,1):=by
 rw[yk _ _ (.inr rfl),lh,if_neg ag,if_pos (by rw[mQ,HF];decide),mQ,HF];rfl
end
section
open Go.V
attribute [local irreducible] G GO GP GPW GPK Ev Ef EfR Ent CB GB V.Enters
structure AllI (f:Int→Int→Int) (l:List Hd):Prop where
 srt:l.Pairwise klt
 val:∀h∈l,h.2.2=f h.1 h.2.1
 all:∀a i,f a i≠0→(a,i,f a i)∈l
def Eg{l:List Hd}{k:Nat}(h:k<l.length):l=l.take k++l[k]!::l.drop (k+1):=by
 conv=>lhs;rw[←ew k l,eZ h]
def AllI.rep{f:Int→Int→Int}{l:List Hd}(h:AllI f l){k:Nat}(hk:k<l.length){n:Int}:AllI (updH f l[k]!.1 l[k]!.2.1 n) (l.take k++[(l[k]!.1,l[k]!.2.1,n)]++l.drop (k+1)):=by
 have hs:=h.srt;have hv:=h.val;have ha:=h.all;rw[Eg hk] at hs hv ha;generalize l[k]! = y at *;generalize l.take k=p at *;generalize l.drop (k+1)=q at *;rw[aH,List.singleton_append];obtain⟨s1,s2,s3⟩:=List.pairwise_append.1 hs;obtain⟨t1,t2⟩:=List.pairwise_cons.1 s2;have a2:∀x∈p,klt x y:=fun x hx=>s3 x hx y aq;refine⟨List.pairwise_append.2 ⟨s1,List.pairwise_cons.2 ⟨fun z hz=>t1 z hz,t2⟩,fun x hx z hz=>?_⟩,fun x hx=>?_,fun a i a1=>?_⟩
 ·rcases List.mem_cons.1 hz with e|hz
  ·rw[e];exact a2 x hx
  ·exact s3 x hx z (au _ hz)
 ·have a0:∀z,klt z y∨klt y z→updH f y.1 y.2.1 n z.1 z.2.1=f z.1 z.2.1:=fun z hz=>by
   unfold updH;rw[if_neg (fun e=>by unfold klt at hz;omega)]
  rcases List.mem_append.1 hx with hx|hx
  ·rw[a0 x (.inl (a2 x hx))];exact hv x (bQ _ hx)
  ·rcases List.mem_cons.1 hx with e|hx
   ·rw[e];unfold updH;rw[if_pos ⟨rfl,rfl⟩]
   ·rw[a0 x (.inr (t1 x hx))];exact hv x (bz _ (au _ hx))
 ·by_cases e:a=y.1∧i=y.2.1
  ·obtain⟨rfl,rfl⟩:=e;unfold updH;rw[if_pos ⟨rfl,rfl⟩];exact bz _ aq
  ·have e2:updH f y.1 y.2.1 n a i=f a i:=if_neg e;rw[e2] at a1 ⊢;rcases List.mem_append.1 (ha a i a1) with hx|hx
   ·exact bQ _ hx
   ·rcases List.mem_cons.1 hx with e3|hx
    ·exact absurd ⟨by rw[←e3],by rw[←e3]⟩ e
    ·exact bz _ (au _ hx)
def AllI.hold{f:Int→Int→Int}{l:List Hd}(h:AllI f l)(hI:HldI f):HoldL f (l.filter (fun x=>decide (0<x.2.2))):=by
 refine⟨h.srt.sublist gP,fun x=>?_⟩;rw[List.mem_filter];constructor
 ·rintro⟨h1,h2⟩;have h2:=of_decide_eq_true h2;exact⟨h.val x h1,ab⟩
 ·rintro⟨e1,e2⟩;have h3:=h.all x.1 x.2.1 (by rw[←e1];exact e2);have h4:=(hI.bd x.1 x.2.1).1;rw[←e1] at h3 h4;exact⟨h3,decide_eq_true ab⟩
abbrev Fo:=ay3 [.ev 5,.ev 6,.ev 7,.ev 8,.ef 4,.ef 9,.ef 10,.ef 11,.ev 12]
def ae0{φ ψ:Prop}(k:ψ)(h:Hid ψ→φ:=by intro k;(repeat (first|refine aa ?_|intro zzz|refine G.dr 17 1 Fo ?_));(repeat revert zzz);exact Hid.out k):φ:=h ⟨k⟩
def Ba{L:LH}(x y:Hd):Tri ai 57 #[aN (fj x),aN (fj y)] L (fun v L'=>v=ac (hdC x y)∧L' = L):=by
 refine Tri.bd ?_;refine ae0 ?_;intros;refine GPW.cr (iy x.1 y.1) ?_;refine ae0 ?_;intros;refine GPW.cr (iy x.2.1 y.2.1) ?_;refine ae0 ?_;intros;rename_i bc;refine GPW.ent (Ent.f7 (enc:=encZ .i64) (sz:=1) (xs:=[cmpI x.1 y.1,cmpI x.2.1 y.2.1]) rfl rfl (fun _ _=>rfl) bZ) ?_;refine GPW.cr (lp (some ⟨bc,0,none⟩) 2 (cmpI x.1 y.1) (cmpI x.2.1 y.2.1)) ?_;refine ae0 ?_;intros;exact KX.en ⟨rfl,rfl⟩
def wK{E cap:Nat}{ad:OA}{xs:List Hd}(a0:xs.length<4611686018427387904) :
  Tri ai 56 #[ah ad xs.length cap,.func (.func 57) #[] #[]] [osl fj 3 E ad cap xs] (fun v L'=>v=.tuple #[]∧∃ys,ez hdC xs ys∧L' = [osl fj 3 E ad cap ys]) :=
 Tri.d7 (ρ:=Tryz.sortH_ren) Tryz.sortH (k:=3) Tryz.isAgg112 Tryz.sizeOf112 (fun _=>rfl) nB (Lc:=[]) hdC qZ en56 en57.1 (fun _ _ _=>trivial) (fun x y=>(Ba (L:=[]) x y).mono (fun _ _ h=>h.1)) a0
def ux{c:Prop}[Decidable c]{A:Prop}(h:¬c):if c then A else([]:List Hd)=[]:=by
 rw[if_neg h]
def hdX(p:(Int×Int)×Int):Hd:=(p.1.1,p.1.2,p.2)
def FI{m:List ((Int×Int)×Int)}(hn:(m.map (·.1)).Nodup){xs ys:List Hd}(hx:xs.Perm ((m.filter (fun p=>decide (0<p.2))).map hdX))(hI:HldI (gFn m))(hy:ez hdC xs ys):HoldL (gFn m) ys:=by
 have a2:∀p∈m,gFn m p.1.1 p.1.2=p.2:=fun p hp=>by
  unfold gFn glk;rw[iT hn hp];rfl
 have a0:=hy.1.trans hx
 have a1:(ys.map (fun h=>(h.1,h.2.1))).Nodup:=by
  refine((a0.map _).nodup_iff).2 ?_;rw[gy];exact(List.Sublist.map (fun p:(Int×Int)×Int=>p.1) gP).nodup hn
 constructor
 ·have h2:=List.pairwise_map.1 a1;refine(List.pairwise_and_iff.2 ⟨hy.2,h2⟩).imp (fun {a b} h=>?_);obtain⟨q1,q2⟩:=h;rw[ml] at q1;have q3:¬(a.1=b.1∧a.2.1=b.2.1):=fun e=>q2 (by rw[e.1,e.2]);unfold klt at q1 ⊢;omega
 ·intro h;rw[a0.mem_iff,List.mem_map];constructor
  ·rintro⟨p,hp,rfl⟩;obtain⟨h1,h2⟩:=List.mem_filter.1 hp;have h2:=of_decide_eq_true h2;refine⟨(a2 p h1).symm,?_⟩;show p.2≠0;omega
  ·rintro⟨e1,e2⟩;obtain⟨a,i,n⟩:=h;dsimp only at e1 e2;have hb:=(hI.bd a i).1;cases hg:glk m (a,i) with
   | none =>
    unfold gFn at e1;rw[hg] at e1;exact absurd e1 e2
   | some k =>
    have hk:gFn m a i=k:=by
     unfold gFn;rw[hg];rfl
    refine⟨((a,i),k),List.mem_filter.2 ⟨iS hg,?_⟩,?_⟩
    ·refine decide_eq_true ?_;show 0<k;omega
    ·show(a,i,k)=(a,i,n);rw[e1,hk]
def nu{L:LH}(items:Int)(ad:OA)(n c:Nat)(ss:List StV)[hr:Rds L ad StV aT 7 ss](hn:n=ss.length)(hl:ss.length≤1000000)(hm:(fD ss).length≤100000) :
  Tri ai 19 #[ac items,ah ad n c] (allP cC ss::L) (fun v L'=>∃a9 a5 hs,v=.tuple #[ah a9 hs.length a5,ac (resH items ss).1]∧(hs.length≤200000∧if(resH items ss).1=0 then HoldL (resH items ss).2 hs else hs=[])∧L' = osl fj 3 tHd a9 a5 hs::allP cC ss::L):=by
 subst hn;refine Tri.bd ?_;by_cases c1:0≤items
 case neg =>
  have e:resH items ss=(1,fun _ _=>0):=if_pos (fun q=>c1 q.1);rw[e];refine Jq ?_;intros;exact KX.d7 al (Ent.d8 fj 3 tHd) ⟨none,0,[],rfl,⟨by decide,rfl⟩,rfl⟩
 by_cases c2:items≤64
 case neg =>
  have e:resH items ss=(1,fun _ _=>0):=if_pos (fun q=>c2 q.2);rw[e];refine Jq ?_;intros;exact KX.d7 al (Ent.d8 fj 3 tHd) ⟨none,0,[],rfl,⟨by decide,rfl⟩,rfl⟩
 have e:resH items ss=hldF items (fD ss) (fun _ _=>0):=if_neg (fun q=>q ⟨c1,c2⟩);rw[e];refine Jq ?_;intros;refine GO.ef (Ef.d9 kvP encN (.inl rfl)) ag ?_;rintro _ _⟨bm,rfl,rfl⟩;refine Jq ?_;intros;rename_i bc;have c3:gFn []=fun _ _=>0:=rfl;rw[←c3];refine G.loop (α:=Nat×List ((Int×Int)×Int)) (fun g=>g.1≤ss.length∧HldI (gFn g.2)∧g.2.length+2*(fD (ss.drop g.1)).length≤2*(fD ss).length∧hldF items (fD ss) (gFn [])=hldF items (fD (ss.drop g.1)) (gFn g.2)) (fun g=>[(0,ac items),(6,ax bc),(7,.func (.func 55) #[] #[ax bc]),(25,ah ad ss.length c),(26,ac ss.length),(27,ac (g.1:Int))]) (fun g=>obj bc 115 [.map (some bm)]::gmap kvP encN bm g.2::allP cC ss::L) (fun g=>ss.length - g.1) (0,[]) ⟨aw _,hld0,Nat.le_of_eq (dq _),rfl⟩ av (Ent.refl _) ?_;rintro⟨i,m⟩ ⟨hi,a1,a3,a0⟩;dsimp only at hi a1 a3 a0 ⊢;by_cases b2:i<ss.length
 case neg =>
  have e0:ss.drop i=[]:=bC ab;rw[e0] at a0;have e1:hldF items (fD ss) (gFn [])=(0,gFn m):=a0;rw[e1];refine G.g7 (km (b:=bm) (m:=m) (kv:=kvP) (enc:=encN)) ?_;intro b7;refine Jq ?_;intros;refine GO.ef (Ef.l7 rfl) ag ?_;rintro _ _⟨r,rfl,rfl⟩;refine Jq ?_;intros;refine G.loop (α:=OA×Nat×List ((Int×Int)×Int)) (fun z=>z.2.2.length≤m.length) (fun z=>[(14,ah z.1 ((z.2.2.filter (fun p=>decide (0<p.2))).map hdX).length z.2.1),(68,ax r)]) (fun z=>iD kvP encN bm m r z.2.2::osl fj 3 tHd z.1 z.2.1 ((z.2.2.filter (fun p=>decide (0<p.2))).map hdX)::allP cC ss::L) (fun z=>m.length - z.2.2.length) (none,0,[]) (aw _) av (show Ent _ (iD kvP encN bm m r []::osl fj 3 tHd none 0 []::allP cC ss::L) from(Ent.d8 fj 3 tHd).trans ae) ?_;rintro⟨ad2,a2,done⟩ c6;dsimp only at c6 ⊢
  have d4:((done.filter (fun p=>decide (0<p.2))).map hdX).length≤done.length:=by
   rw[aA];exact gc _ _
  have b9:m.length≤200000:=ab;refine Jq ?_;intros;refine GO.ef (Ef.l8 rfl) ag ?_;rintro _ _ (⟨rfl,rfl,hp⟩|⟨p,rfl,rfl,d2,c9,d3⟩)
  ·have c4:=hp.length_eq;refine Jq ?_;intros;(first|refine GO.ef (Ef.call (wK (E:=tHd) (ad:=ad2) (cap:=a2) (xs:=(done.filter (fun p=>decide (0<p.2))).map hdX) ab) rfl cJ) ag ?_);rintro _ _⟨_,⟨rfl,ys,b3,rfl⟩,hL⟩;simp only[ao,an] at hL;subst hL;refine Jq ?_;intros;have b6:=b3.1.length_eq;refine KX.d7 al ?_ ⟨ad2,a2,ys,by rw[b6];rfl,⟨ab,?_⟩,rfl⟩
   ·exact ae
   ·rw[if_pos rfl];exact FI b7 ((hp.filter _).map hdX) a1 b3
  ·refine Jq ?_;intros;refine GO.ev (Ev.l7 (done:=done) rfl rfl) ag ?_;obtain⟨⟨a,it⟩,n⟩:=p;simp only[kvP,encN,bM,ga];by_cases b0:0<n
   ·have a4:(done++[((a,it),n)]).filter (fun p=>decide (0<p.2))=done.filter (fun p=>decide (0<p.2))++[((a,it),n)]:=by
     rw[du,cF (by simpa using b0)];rfl
    refine Jq ?_;intros;refine GO.ef (Ef.d7 (enc:=fj) (e:=(a,it,n)) rfl rfl rfl rfl rfl aK (nB _) ab ab) ag ?_;rintro _ _⟨c0,a8,rfl,rfl⟩;refine Jq ?_;intros;refine⟨(c0,a8,done++[((a,it),n)]),by dsimp only;simp;omega,by dsimp only;simp;omega,?_,?_⟩
    ·dsimp only;rw[a4,aW];exact av
    ·dsimp only;rw[a4,aW,show List.map hdX [((a,it),n)]=[(a,it,n)] from rfl];exact ae
   ·have a4:(done++[((a,it),n)]).filter (fun p=>decide (0<p.2))=done.filter (fun p=>decide (0<p.2)):=by
     rw[du,cG (by simpa using b0),List.filter_nil,aQ]
    refine Jq ?_;intros;refine⟨(ad2,a2,done++[((a,it),n)]),by dsimp only;simp;omega,by dsimp only;simp;omega,?_,?_⟩
    ·dsimp only;rw[a4];exact av
    ·dsimp only;rw[a4];exact ae
 have c5:(i:Int).toNat=i:=aC i;have b5 : (i:Int).toNat<ss.length:=ab;rw[eZ b2,oS] at a0 a3;rw[ay,aA] at a3;refine Jq ?_;intros;refine G.ent (Ent.at (A:=allP cC ss) (pR b2)) ?_;rw[c5];generalize ss[i]! = s at *;refine G.loop (α:=Nat×List ((Int×Int)×Int)) (fun g=>g.1≤s.moves.length∧HldI (gFn g.2)∧g.2.length+2*((s.moves.length - g.1)+(fD (ss.drop (i+1))).length)≤2*(fD ss).length∧hldF items (fD ss) (gFn [])=hldF items ((s.moves.drop g.1).map MvV.m++fD (ss.drop (i+1))) (gFn g.2)) (fun g=>[(0,ac items),(6,ax bc),(7,.func (.func 55) #[] #[ax bc]),(25,ah ad ss.length c),(26,ac ss.length),(27,ac (i:Int)),(32,ah s.mad s.moves.length s.mcap),(33,ac s.moves.length),(34,ac (g.1:Int))]) (fun g=>isl aM 5 s.mad s.moves::obj bc 115 [.map (some bm)]::gmap kvP encN bm g.2::allP cC ss::L) (fun g=>s.moves.length - g.1) (0,m) ⟨aw _,a1,by dsimp only;omega,a0⟩ av ae ?_;have d1:s.moves.length≤100000:=ab;clear a1 a3 a0;rintro⟨j,m⟩ ⟨hj,a1,a3,a0⟩;dsimp only at hj a1 a3 a0 ⊢;by_cases b8:j<s.moves.length
 case neg =>
  have e0:s.moves.drop j=[]:=bC ab;rw[e0] at a0;refine Jq ?_;intros;refine⟨(i+1,m),⟨by dsimp only;omega,a1,by dsimp only;omega,a0⟩,by dsimp only;omega,?_,by exact ae⟩;dsimp only;rw[aV i];exact av
 have c8:(j:Int).toNat=j:=aC j;have c7 : (j:Int).toNat<s.moves.length:=ab;rw[xL b8,vq] at a0;refine Jq ?_;intros;rw[c8];rename_i d0;generalize s.moves[j]! = mv at *;refine GO.cr (rB items mv) ?_;by_cases a6:lq items mv.m
 case neg =>
  have es:jW items (gFn m) mv.m=(1,gFn m):=if_pos a6;rw[es,if_neg (show ¬(1:Int)=0 by decide)] at a0;rw[aG a6,a0];refine Jq ?_;intros;exact KX.d7 al (Ent.trans ae (Ent.d8 fj 3 tHd)) ⟨none,0,[],rfl,⟨by decide,ux (show ¬(1:Int)=0 by decide)⟩,rfl⟩
 have es:jW items (gFn m) mv.m=if(chgH (gFn m) mv.m.frm mv.m.item (-mv.m.n)).1=0 then chgH (chgH (gFn m) mv.m.frm mv.m.item (-mv.m.n)).2 mv.m.to mv.m.item mv.m.n else((chgH (gFn m) mv.m.frm mv.m.item (-mv.m.n)).1,gFn m):=if_neg (fun q=>q a6);rw[aS a6];obtain⟨⟨k1,k2⟩,⟨k3,k4⟩,k5,k6⟩:=a6;obtain⟨⟨frm,to,item,mn,parts⟩,pad,pcap⟩:=mv;dsimp only at k1 k2 k3 k4 k5 k6 es a0 ⊢;simp only[aM];refine Jq ?_;intros;(first|refine GO.ef (Ef.m7 rfl rfl (rN (L:=[]) bc bm m frm item (-mn) a1 ab) cJ) ag ?_);rintro _ _⟨_,⟨m1,rfl,⟨e1,l1⟩,rfl⟩,hL⟩;simp only[ao,an] at hL;subst hL;by_cases hc:(chgH (gFn m) frm item (-mn)).1=0
 case neg =>
  rw[if_neg hc] at es;rw[es,if_neg (show ¬(chgH (gFn m) frm item (-mn)).1=0 from hc)] at a0;rw[a0];generalize (chgH (gFn m) frm item (-mn)).1=ec at *;refine Jq ?_;intros;exact KX.d7 al (Ent.trans ae (Ent.d8 fj 3 tHd)) ⟨none,0,[],rfl,⟨by decide,ux (show ¬ec=0 from hc)⟩,rfl⟩
 rw[if_pos hc,←e1] at es;have b1:HldI (gFn m1):=by rw[e1];exact a1.chg
 rw[hc];refine Jq ?_;intros;(first|refine GO.ef (Ef.m7 rfl rfl (rN (L:=[]) bc bm m1 to item mn b1 ab) cJ) ag ?_);rintro _ _⟨_,⟨m2,rfl,⟨e2,l2⟩,rfl⟩,hL⟩;simp only[ao,an] at hL;subst hL;by_cases a7:(chgH (gFn m1) to item mn).1=0
 case neg =>
  rw[es,if_neg (show ¬(chgH (gFn m1) to item mn).1=0 from a7)] at a0;rw[a0];generalize (chgH (gFn m1) to item mn).1=ec at *;refine Jq ?_;intros;exact KX.d7 al (Ent.trans ae (Ent.d8 fj 3 tHd)) ⟨none,0,[],rfl,⟨by decide,ux (show ¬ec=0 from a7)⟩,rfl⟩
 rw[es,if_pos (show(chgH (gFn m1) to item mn).1=0 from a7),←e2] at a0;have b4:HldI (gFn m2):=by rw[e2];exact b1.chg
 rw[a7];refine Jq ?_;intros;refine⟨(j+1,m2),⟨by dsimp only;omega,b4,by dsimp only;omega,a0⟩,by dsimp only;omega,?_,by exact ae⟩;dsimp only;rw[aV j];exact av
