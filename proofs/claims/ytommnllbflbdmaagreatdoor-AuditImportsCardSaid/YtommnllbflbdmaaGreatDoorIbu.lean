/- Lemmas. -/
import Derived.Test.YtommnllbflbdmaaGreatDoorIbt
set_option linter.all false
set_option maxHeartbeats 4000000
namespace Go.V
def CC(M:Env→LH→Prop):Post:=fun e env L=>match e with
 | .normal=>M env L
 | _=>False
instance {M:Env→LH→Prop}:NoP (CC M):=⟨fun _ _ _ h=>h,fun _ _ h=>h⟩
section
variable {P:Program}{N:Nat}{env:Env}{L:LH}{K:Post}
def KX.l6{M:Env→LH→Prop}(h:M env L):CC M .normal env L:=h
def G.g9{α:Type}{x y:Code}(Inv:α→Prop)(e:α→Env)(l:α→LH)(h:G P N x env L (CC fun a0 L'=>∃g,Inv g∧EnvSub a0 (e g)∧Ent L' (l g)))(h' : ∀g,Inv g→G P N y (e g) (l g) K):G P N (.seq x y) env L K :=
 G.seq (G.mono h (fun ex a0 L' hx=>by
  cases ex with
  | normal=>obtain⟨g,h1,h2,h3⟩:=hx;exact(h' g h1).conseq h2 h3
  | _=>exact False.elim hx))
def Ent.under{A:LH}{p:HP}(h:Ent L (p::L)):Ent (A++L) (p::(A++L)) :=
 (Ent.append (Ent.refl A) h).trans (Ent.perm fG)
end
end Go.V
namespace Go.Proofs.YtommnllbflbdmaaGreatDoor
section
open Go.V
def exS:StM:=⟨0,0,0,0,-1,0,[⟨0,1,0,5,[]⟩]⟩
def exT(n:Int):StM:=⟨0,2,0,0,-1,0,[⟨1,2,0,n,[]⟩]⟩
def exF0:FlM:=⟨0,0,0,0,0,0,1,0,5,[],[]⟩
def exF1(a:Int):FlM:=⟨1,1,2,0,0,1,2,0,3,[(0,a,3)],[]⟩
def exW1:Wk:=⟨upd2 (fun _ _=>[]) 1 0 [(0,0,5)],upd (fun _=>0) 0 5,[exF0],[]⟩
def exL1:LedM:={ led0 0 cat22 with stk:=exW1.stk,tot:=exW1.tot,steps:=[exS],flows:=[exF0] }
def exW2:Wk:=⟨upd2 (upd2 exW1.stk 1 0 [(0,3,2)]) 2 0 [(1,0,3)],upd exW1.tot 0 5,[exF1 0],[]⟩
def exL2:LedM:={ exL1 with stk:=exW2.stk,tot:=exW2.tot,steps:=[exS,(exT 3).at 1],flows:=[exF0,exF1 0] }
def exM1:iC 0 0 (bL cat22) exS (wk0 (led0 0 cat22)) exS.moves=(0,exW1):=rfl
def exG1:dH 0 [] (bL cat22) exS (wk0 (led0 0 cat22)) exS.moves=(0,exW1):=rfl
def exM2:iC 0 1 (bL cat22) ((exT 3).at 1) (wk0 exL1) (exT 3).moves=(0,exW2):=rfl
def exG2:dH 0 [exF0] (bL cat22) ((exT 3).at 1) (wk0 exL1) (exT 3).moves=(0,exW2):=rfl
def exG3:(dH 0 [exF0] (bL cat22) ((exT 6).at 1) (wk0 exL1) (exT 6).moves).1=10:=rfl
def CR{k:Int}(h:¬(k=5∨k=7∨k=9)):gr k=false:=by unfold gr;exact aH h
def exP(now:Int)(h:now=0){s:StM}(hs:s=exS∨s=exT 3∨s=exT 6):fP cat22 now s∧lX cat22 now s:=by
 subst h;rcases hs with rfl|rfl|rfl
 all_goals
  refine⟨⟨⟨by decide,by decide⟩,⟨by decide,by decide⟩,⟨by decide,by decide⟩,⟨by decide,by decide⟩,fun m hm=>?_,?_⟩,⟨⟨by decide,by decide⟩,⟨by decide,by decide,by decide⟩,⟨by decide,by decide⟩,fun m hm=>?_,?_⟩⟩
  ·rw[List.mem_singleton.1 hm]
   refine⟨⟨⟨by decide,by decide⟩,⟨by decide,by decide⟩,by decide,by decide,by decide,by decide,by decide⟩,?_⟩
   rw[CR ah,if_neg ah]
   rfl
  ·refine⟨fun m hm=>?_,rfl,rfl⟩
   rw[List.mem_singleton.1 hm]
   decide
  ·rw[List.mem_singleton.1 hm]
   refine aT ⟨⟨by decide,by decide⟩,⟨by decide,by decide⟩,⟨by decide,by decide⟩,⟨by decide,by decide⟩,by decide,?_,?_,rfl⟩
   ·unfold mS
    first|exact aT ah|(rw[if_pos ah];exact aT ah)|(rw[if_neg ah,if_neg ah];exact aT ah)
   ·unfold kTo
    rw[if_neg ah,if_neg ah]
    exact aT ah
  ·show jr _ _
   unfold jr
   rw[if_neg ah]
   exact⟨rfl,rfl⟩
def zS{S:LedM}{s:StM}(h1:¬65536≤S.steps.length)(h2:lX S.cat S.now s):tryM S s=iC S.shard S.flows.length (bL S.cat) (s.at (aR S)) (wk0 S) s.moves:=by
 unfold tryM;rw[if_neg h1,if_neg (not_not_intro h2)]
def tG{S:LedM}{s:StM}(h1:¬65536≤S.steps.length)(h2:fP S.cat S.now s):gTry S s=dH S.shard S.flows (bL S.cat) (s.at (aR S)) (wk0 S) s.moves:=by
 unfold gTry;rw[if_neg h1,if_neg (not_not_intro h2)]
def Ea:tryM (led0 0 cat22) exS=(0,exW1):=(zS (by show ¬65536≤0;decide) (exP 0 rfl (.inl rfl)).2).trans exM1
def Cg:gTry (led0 0 cat22) exS=(0,exW1):=(tG (by show ¬65536≤0;decide) (exP 0 rfl (.inl rfl)).1).trans exG1
def DZ:tryM exL1 (exT 3)=(0,exW2):=(zS (by show ¬65536≤1;decide) (exP 0 rfl (.inr (.inl rfl))).2).trans exM2
def vq:gTry exL1 (exT 3)=(0,exW2):=(tG (by show ¬65536≤1;decide) (exP 0 rfl (.inr (.inl rfl))).1).trans exG2
def FA:(gTry exL1 (exT 6)).1=10:=(congrArg Prod.fst (tG (by show ¬65536≤1;decide) (exP 0 rfl (.inr (.inr rfl))).1)).trans exG3
def ml(S:LedM)(s:StM)(id:Int):gTry S (s.at id)=gTry S s:=rfl
def Am:kP (led0 0 cat22) exS=exL1:=by
 have e:(tryM (led0 0 cat22) exS).1=0:=by rw[Ea]
 unfold kP;rw[if_pos e];unfold lW;rw[Ea];rfl
def Gu:kP exL1 (exT 3)=exL2:=by
 have e:(tryM exL1 (exT 3)).1=0:=by rw[DZ]
 unfold kP;rw[if_pos e];unfold lW;rw[DZ];rfl
def Hs:cR (led0 0 cat22) exS=exL1:=by
 have e:(gTry (led0 0 cat22) exS).1=0:=by rw[Cg]
 unfold cR;rw[if_pos e];unfold gC;rw[Cg];rfl
def FB:cR exL1 ((exT 3).at 1)=exL2:=by
 have e:(gTry exL1 ((exT 3).at 1)).1=0:=by rw[ml,vq]
 unfold cR;rw[if_pos e];unfold gC;rw[ml,vq];rfl
def xc(fl:List FlM)(s:StM)(h:fl=[exF0,exF1 0]∨fl=[exF0,exF1 1]):audF 0 cat22 [exS,s] fl=audG fl 1 exL1 [s]:=by
 unfold audF;rw[if_pos ah,kK,if_neg ah,if_neg (by rw[Cg];decide),Hs];rw[if_neg];rintro (q|q)
 ·rcases h with rfl|rfl
  ·exact absurd q (by show ¬2<1;decide)
  ·exact absurd q (by show ¬2<1;decide)
 ·rcases h with rfl|rfl
  ·exact q rfl
  ·exact q rfl
def Hc:audF 0 cat22 [exS,(exT 3).at 1] [exF0,exF1 0]=(0,0,0):=by
 rw[xc _ _ (.inl rfl),kK,if_neg ah,if_neg (by rw[ml,vq];decide),FB,if_neg,rE,if_neg ah];rintro (q|q)
 ·exact absurd q (by show ¬2<2;decide)
 ·exact q rfl
def Hb:audF 0 cat22 [exS,(exT 3).at 1] [exF0,exF1 1]=(20,0,1):=by
 rw[xc _ _ (.inr rfl),kK,if_neg ah,if_neg (by rw[ml,vq];decide),FB,if_pos]
 ·rfl
 ·refine .inr fun q=>?_;have e:exF1 0=exF1 1:=List.cons.inj q |>.1;have e2:((exF1 0).parts.head!).2.1=((exF1 1).parts.head!).2.1:=by rw[e]
  exact absurd e2 ah
def Ha:audF 0 cat22 [exS,(exT 6).at 1] [exF0,exF1 1]=(10,0,1):=by
 rw[xc _ _ (.inr rfl),kK,if_neg ah,if_pos (by rw[ml,FA];decide),ml,FA];rfl
end
section
open Go.V
attribute [local irreducible] G GO GP GPW GPK Ev Ef EfR Ent CB GB V.Enters
structure AllI (f:Int→Int→Int) (l:List Hd):Prop where
 srt:l.Pairwise klt
 val:∀h∈l,h.2.2=f h.1 h.2.1
 all:∀a i,f a i≠0→(a,i,f a i)∈l
def Cl{l:List Hd}{k:Nat}(h:k<l.length):l=l.take k++l[k]!::l.drop (k+1):=by
 conv=>lhs;rw[←ft k l,dF h]
def AllI.rep{f:Int→Int→Int}{l:List Hd}(h:AllI f l){k:Nat}(hk:k<l.length){n:Int}:AllI (updH f l[k]!.1 l[k]!.2.1 n) (l.take k++[(l[k]!.1,l[k]!.2.1,n)]++l.drop (k+1)):=by
 have hs:=h.srt;have hv:=h.val;have ha:=h.all;rw[Cl hk] at hs hv ha;generalize l[k]! = y at *;generalize l.take k=p at *;generalize l.drop (k+1)=q at *;rw[aJ,List.singleton_append];obtain⟨s1,s2,s3⟩:=List.pairwise_append.1 hs;obtain⟨t1,t2⟩:=List.pairwise_cons.1 s2;have a1:∀x∈p,klt x y:=fun x hx=>s3 x hx y au;refine⟨List.pairwise_append.2 ⟨s1,List.pairwise_cons.2 ⟨fun z hz=>t1 z hz,t2⟩,fun x hx z hz=>?_⟩,fun x hx=>?_,fun a i a2=>?_⟩
 ·rcases List.mem_cons.1 hz with e|hz
  ·rw[e];exact a1 x hx
  ·exact s3 x hx z (aq _ hz)
 ·have a0:∀z,klt z y∨klt y z→updH f y.1 y.2.1 n z.1 z.2.1=f z.1 z.2.1:=fun z hz=>by
   unfold updH;rw[if_neg (fun e=>by unfold klt at hz;omega)]
  rcases List.mem_append.1 hx with hx|hx
  ·rw[a0 x (.inl (a1 x hx))];exact hv x (cA _ hx)
  ·rcases List.mem_cons.1 hx with e|hx
   ·rw[e];unfold updH;rw[if_pos ⟨rfl,rfl⟩]
   ·rw[a0 x (.inr (t1 x hx))];exact hv x (cW _ (aq _ hx))
 ·by_cases e:a=y.1∧i=y.2.1
  ·obtain⟨rfl,rfl⟩:=e;unfold updH;rw[if_pos ⟨rfl,rfl⟩];exact cW _ au
  ·have e2:updH f y.1 y.2.1 n a i=f a i:=if_neg e;rw[e2] at a2 ⊢;rcases List.mem_append.1 (ha a i a2) with hx|hx
   ·exact cA _ hx
   ·rcases List.mem_cons.1 hx with e3|hx
    ·exact absurd ⟨by rw[←e3],by rw[←e3]⟩ e
    ·exact cW _ (aq _ hx)
def AllI.hold{f:Int→Int→Int}{l:List Hd}(h:AllI f l)(hI:HldI f):HoldL f (l.filter (fun x=>decide (0<x.2.2))):=by
 refine⟨h.srt.sublist gy,fun x=>?_⟩;rw[List.mem_filter];constructor
 ·rintro⟨h1,h2⟩;have h2:=of_decide_eq_true h2;exact⟨h.val x h1,ab⟩
 ·rintro⟨e1,e2⟩;have h3:=h.all x.1 x.2.1 (by rw[←e1];exact e2);have h4:=(hI.bd x.1 x.2.1).1;rw[←e1] at h3 h4;exact⟨h3,decide_eq_true ab⟩
abbrev Dm:List Stp:=[.ev 0,.ev 1,.ev 2,.ev 3,.ev 5,.ev 6,.ev 7,.ev 8,.ef 4,.ef 9,.ef 10,.ef 11,.ev 12]
def YA{φ ψ:Prop}(k:ψ)(h:Hid ψ→φ:=by intro k;(repeat (first|refine aa ?_|intro zzz|((with_reducible apply G.d8);first|refine G.d7 (N:=17) (id:=1) Dm mixed aw ?_)));(repeat revert zzz);exact Hid.out k):φ:=h ⟨k⟩
def zA{L:LH}(x y:Hd):Tri ag 57 #[.agg (gU x).toArray,.agg (gU y).toArray] L (fun v L'=>v=ac (hdC x y)∧L' = L):=by
 refine Tri.bd ?_;refine YA ?_;intros;refine GPW.cr (kd x.1 y.1) ?_;refine YA ?_;intros;refine GPW.cr (kd x.2.1 y.2.1) ?_;refine YA ?_;intros;rename_i bc;refine GPW.ent (Ent.g7 (enc:=encZ .i64) (sz:=1) (xs:=[cmpI x.1 y.1,cmpI x.2.1 y.2.1]) rfl rfl (fun _ _=>rfl) (by simp)) ?_;refine GPW.cr (ox (some ⟨bc,0,none⟩) 2 (cmpI x.1 y.1) (cmpI x.2.1 y.2.1)) ?_;refine YA ?_;intros;exact KX.en ⟨rfl,rfl⟩
def vO{E cap:Nat}{ad:OA}{xs:List Hd}(a0:xs.length<4611686018427387904) :
  Tri ag 56 #[.slice ad xs.length cap,.func (.func 57) #[] #[]] [osl gU 3 E ad cap xs] (fun v L'=>v=.tuple #[]∧∃ys,gq hdC xs ys∧L' = [osl gU 3 E ad cap ys]) :=
 Tri.d7 (ρ:=Tryz.sortH_ren) Tryz.sortH (k:=3) Tryz.isAgg112 Tryz.sizeOf112 (fun _=>rfl) uH (Lc:=[]) hdC Af en56 en57.1 (fun _ _ _=>trivial) (fun x y=>(zA (L:=[]) x y).mono (fun _ _ h=>h.1)) a0
def tE{c:Prop}[Decidable c]{A:Prop}(h:¬c):if c then A else([]:List Hd)=[]:=by
 rw[if_neg h]
def hdX(p:(Int×Int)×Int):Hd:=(p.1.1,p.1.2,p.2)
def DI{m:List ((Int×Int)×Int)}(hn:(m.map (·.1)).Nodup){xs ys:List Hd}(hx:xs.Perm ((m.filter (fun p=>decide (0<p.2))).map hdX))(hI:HldI (gFn m))(hy:gq hdC xs ys):HoldL (gFn m) ys:=by
 have a1:∀p∈m,gFn m p.1.1 p.1.2=p.2:=fun p hp=>by
  unfold gFn glk;rw[lh hn hp];rfl
 have a0:=hy.1.trans hx
 have a2:(ys.map (fun h=>(h.1,h.2.1))).Nodup:=by
  refine((a0.map _).nodup_iff).2 ?_;rw[eO];exact(List.Sublist.map (fun p:(Int×Int)×Int=>p.1) gy).nodup hn
 constructor
 ·have h2:=List.pairwise_map.1 a2;refine(List.pairwise_and_iff.2 ⟨hy.2,h2⟩).imp (fun {a b} h=>?_);obtain⟨q1,q2⟩:=h;rw[nL] at q1;have q3:¬(a.1=b.1∧a.2.1=b.2.1):=fun e=>q2 (by rw[e.1,e.2]);unfold klt at q1 ⊢;omega
 ·intro h;rw[a0.mem_iff,List.mem_map];constructor
  ·rintro⟨p,hp,rfl⟩;obtain⟨h1,h2⟩:=List.mem_filter.1 hp;have h2:=of_decide_eq_true h2;refine⟨(a1 p h1).symm,?_⟩;show p.2≠0;omega
  ·rintro⟨e1,e2⟩;obtain⟨a,i,n⟩:=h;dsimp only at e1 e2;have hb:=(hI.bd a i).1;cases hg:glk m (a,i) with
   | none =>
    unfold gFn at e1;rw[hg] at e1;exact absurd e1 e2
   | some k =>
    have hk:gFn m a i=k:=by
     unfold gFn;rw[hg];rfl
    refine⟨((a,i),k),List.mem_filter.2 ⟨jz hg,?_⟩,?_⟩
    ·refine decide_eq_true ?_;show 0<k;omega
    ·show(a,i,k)=(a,i,n);rw[e1,hk]
def sH{L:LH}(items:Int)(ad:OA)(n c:Nat)(ss:List StV)[hr:Rds L ad StV aL 7 ss](hn:n=ss.length)(hl:ss.length≤1000000)(hm:(fK ss).length≤100000) :
  Tri ag 19 #[ac items,.slice ad n c] (allP bK ss::L) (fun v L'=>∃a8 a5 hs,v=.tuple #[.slice a8 hs.length a5,ac (resH items ss).1]∧(hs.length≤200000∧if(resH items ss).1=0 then HoldL (resH items ss).2 hs else hs=[])∧L' = osl gU 3 tHd a8 a5 hs::allP bK ss::L):=by
 subst hn;refine Tri.bd ?_;by_cases c1:0≤items
 case neg =>
  have e:resH items ss=(1,fun _ _=>0):=if_pos (fun q=>c1 q.1);rw[e];refine Hz ?_;intros;exact KX.d7 an (Ent.d9 gU 3 tHd) ⟨none,0,[],rfl,⟨by decide,rfl⟩,rfl⟩
 by_cases c2:items≤64
 case neg =>
  have e:resH items ss=(1,fun _ _=>0):=if_pos (fun q=>c2 q.2);rw[e];refine Hz ?_;intros;exact KX.d7 an (Ent.d9 gU 3 tHd) ⟨none,0,[],rfl,⟨by decide,rfl⟩,rfl⟩
 have e:resH items ss=hldF items (fK ss) (fun _ _=>0):=if_neg (fun q=>q ⟨c1,c2⟩);rw[e];refine Hz ?_;intros;refine GO.ef (Ef.d9 kvP encN (.inl rfl)) ah ?_;rintro _ _⟨bm,rfl,rfl⟩;refine Hz ?_;intros;rename_i bc;have b6:gFn []=fun _ _=>0:=rfl;rw[←b6];refine G.loop (α:=Nat×List ((Int×Int)×Int)) (fun g=>g.1≤ss.length∧HldI (gFn g.2)∧g.2.length+2*(fK (ss.drop g.1)).length≤2*(fK ss).length∧hldF items (fK ss) (gFn [])=hldF items (fK (ss.drop g.1)) (gFn g.2)) (fun g=>[(0,ac items),(6,av bc),(7,.func (.func 55) #[] #[av bc]),(25,.slice ad ss.length c),(26,ac ss.length),(27,ac (g.1:Int))]) (fun g=>obj bc 115 [.map (some bm)]::gmap kvP encN bm g.2::allP bK ss::L) (fun g=>ss.length - g.1) (0,[]) ⟨aj _,hld0,Nat.le_of_eq (dg _),rfl⟩ ai (Ent.refl _) ?_;rintro⟨i,m⟩ ⟨hi,a1,a2,a0⟩;dsimp only at hi a1 a2 a0 ⊢;by_cases b0:i<ss.length
 case neg =>
  have e0:ss.drop i=[]:=bg ab;rw[e0] at a0;have e1:hldF items (fK ss) (gFn [])=(0,gFn m):=a0;rw[e1];refine G.e8 (oG (b:=bm) (m:=m) (kv:=kvP) (enc:=encN)) ?_;intro c0;refine Hz ?_;intros;refine GO.ef (Ef.l9 rfl) ah ?_;rintro _ _⟨r,rfl,rfl⟩;refine Hz ?_;intros;refine G.loop (α:=OA×Nat×List ((Int×Int)×Int)) (fun z=>z.2.2.length≤m.length) (fun z=>[(14,.slice z.1 ((z.2.2.filter (fun p=>decide (0<p.2))).map hdX).length z.2.1),(68,av r)]) (fun z=>jJ kvP encN bm m r z.2.2::osl gU 3 tHd z.1 z.2.1 ((z.2.2.filter (fun p=>decide (0<p.2))).map hdX)::allP bK ss::L) (fun z=>m.length - z.2.2.length) (none,0,[]) (aj _) ai (show Ent _ (jJ kvP encN bm m r []::osl gU 3 tHd none 0 []::allP bK ss::L) from(Ent.d9 gU 3 tHd).trans ae) ?_;rintro⟨ad2,cap2,done⟩ b9;dsimp only at b9 ⊢
  have c8:((done.filter (fun p=>decide (0<p.2))).map hdX).length≤done.length:=by
   rw[aA];exact List.length_filter_le _ _
  have c5:m.length≤200000:=ab;refine Hz ?_;intros;refine GO.ef (Ef.m6 rfl) ah ?_;rintro _ _ (⟨rfl,rfl,hp⟩|⟨p,rfl,rfl,d2,d0,d1⟩)
  ·have b7:=hp.length_eq;refine Hz ?_;intros;(first|refine GO.ef (Ef.call (vO (E:=tHd) (ad:=ad2) (cap:=cap2) (xs:=(done.filter (fun p=>decide (0<p.2))).map hdX) ab) rfl (by repeat (first|exact Ent.refl _|apply Ent.take))) ah ?_);rintro _ _⟨_,⟨rfl,ys,b1,rfl⟩,hL⟩;simp only[ax,ap] at hL;subst hL;refine Hz ?_;intros;have c6:=b1.1.length_eq;refine KX.d7 an ?_ ⟨ad2,cap2,ys,by rw[c6];rfl,⟨ab,?_⟩,rfl⟩
   ·exact ae
   ·rw[if_pos rfl];exact DI c0 ((hp.filter _).map hdX) a1 b1
  ·refine Hz ?_;intros;refine GO.ev (Ev.r8 (done:=done) rfl rfl) ah ?_;obtain⟨⟨a,it⟩,n⟩:=p;simp only[kvP,encN,bO,gw];by_cases a9:0<n
   ·have a4:(done++[((a,it),n)]).filter (fun p=>decide (0<p.2))=done.filter (fun p=>decide (0<p.2))++[((a,it),n)]:=by
     rw[dK,cj (by simpa using a9)];rfl
    refine Hz ?_;intros;refine GO.ef (Ef.d7 (enc:=gU) (e:=(a,it,n)) rfl rfl rfl rfl rfl (by rfl) (uH _) ab ab) ah ?_;rintro _ _⟨b8,a7,rfl,rfl⟩;refine Hz ?_;intros;refine⟨(b8,a7,done++[((a,it),n)]),by dsimp only;simp;omega,by dsimp only;simp;omega,?_,?_⟩
    ·dsimp only;rw[a4,aZ];exact ai
    ·dsimp only;rw[a4,aZ,show List.map hdX [((a,it),n)]=[(a,it,n)] from rfl];exact ae
   ·have a4:(done++[((a,it),n)]).filter (fun p=>decide (0<p.2))=done.filter (fun p=>decide (0<p.2)):=by
     rw[dK,cn (by simpa using a9),List.filter_nil,aY]
    refine Hz ?_;intros;refine⟨(ad2,cap2,done++[((a,it),n)]),by dsimp only;simp;omega,by dsimp only;simp;omega,?_,?_⟩
    ·dsimp only;rw[a4];exact ai
    ·dsimp only;rw[a4];exact ae
 have c3:(i:Int).toNat=i:=ay i;have c7 : (i:Int).toNat<ss.length:=ab;rw[dF b0,sy] at a0 a2;rw[aD,aA] at a2;refine Hz ?_;intros;refine G.ent (Ent.at (A:=allP bK ss) (tZ b0)) ?_;rw[c3];generalize ss[i]! = s at *;refine G.loop (α:=Nat×List ((Int×Int)×Int)) (fun g=>g.1≤s.moves.length∧HldI (gFn g.2)∧g.2.length+2*((s.moves.length - g.1)+(fK (ss.drop (i+1))).length)≤2*(fK ss).length∧hldF items (fK ss) (gFn [])=hldF items ((s.moves.drop g.1).map MvV.m++fK (ss.drop (i+1))) (gFn g.2)) (fun g=>[(0,ac items),(6,av bc),(7,.func (.func 55) #[] #[av bc]),(25,.slice ad ss.length c),(26,ac ss.length),(27,ac (i:Int)),(32,.slice s.mad s.moves.length s.mcap),(33,ac s.moves.length),(34,ac (g.1:Int))]) (fun g=>isl aQ 5 s.mad s.moves::obj bc 115 [.map (some bm)]::gmap kvP encN bm g.2::allP bK ss::L) (fun g=>s.moves.length - g.1) (0,m) ⟨aj _,a1,by dsimp only;omega,a0⟩ ai ae ?_;have d3:s.moves.length≤100000:=ab;clear a1 a2 a0;rintro⟨j,m⟩ ⟨hj,a1,a2,a0⟩;dsimp only at hj a1 a2 a0 ⊢;by_cases b5:j<s.moves.length
 case neg =>
  have e0:s.moves.drop j=[]:=bg ab;rw[e0] at a0;refine Hz ?_;intros;refine⟨(i+1,m),⟨by dsimp only;omega,a1,by dsimp only;omega,a0⟩,by dsimp only;omega,?_,by exact ae⟩;dsimp only;rw[aK i];exact ai
 have c4:(j:Int).toNat=j:=ay j;have b3 : (j:Int).toNat<s.moves.length:=ab;rw[wA b5,DJ] at a0;refine Hz ?_;intros;rw[c4];rename_i c9;generalize s.moves[j]! = mv at *;refine GO.cr (qD items mv) ?_;by_cases a3:lq items mv.m
 case neg =>
  have es:kD items (gFn m) mv.m=(1,gFn m):=if_pos a3;rw[es,if_neg (show ¬(1:Int)=0 by decide)] at a0;rw[aH a3,a0];refine Hz ?_;intros;exact KX.d7 an (Ent.trans ae (Ent.d9 gU 3 tHd)) ⟨none,0,[],rfl,⟨by decide,tE (show ¬(1:Int)=0 by decide)⟩,rfl⟩
 have es:kD items (gFn m) mv.m=if(chgH (gFn m) mv.m.frm mv.m.item (-mv.m.n)).1=0 then chgH (chgH (gFn m) mv.m.frm mv.m.item (-mv.m.n)).2 mv.m.to mv.m.item mv.m.n else((chgH (gFn m) mv.m.frm mv.m.item (-mv.m.n)).1,gFn m):=if_neg (fun q=>q a3);rw[aT a3];obtain⟨⟨k1,k2⟩,⟨k3,k4⟩,k5,k6⟩:=a3;obtain⟨⟨frm,to,item,mn,parts⟩,pad,pcap⟩:=mv;dsimp only at k1 k2 k3 k4 k5 k6 es a0 ⊢;simp only[aQ];refine Hz ?_;intros;(first|refine GO.ef (Ef.m7 rfl rfl (qO (L:=[]) bc bm m frm item (-mn) a1 ab) (by repeat (first|exact Ent.refl _|apply Ent.take))) ah ?_);rintro _ _⟨_,⟨m1,rfl,⟨e1,l1⟩,rfl⟩,hL⟩;simp only[ax,ap] at hL;subst hL;by_cases hc:(chgH (gFn m) frm item (-mn)).1=0
 case neg =>
  rw[if_neg hc] at es;rw[es,if_neg (show ¬(chgH (gFn m) frm item (-mn)).1=0 from hc)] at a0;rw[a0];generalize (chgH (gFn m) frm item (-mn)).1=ec at *;refine Hz ?_;intros;exact KX.d7 an (Ent.trans ae (Ent.d9 gU 3 tHd)) ⟨none,0,[],rfl,⟨by decide,tE (show ¬ec=0 from hc)⟩,rfl⟩
 rw[if_pos hc,←e1] at es;have b2:HldI (gFn m1):=by rw[e1];exact a1.chg
 rw[hc];refine Hz ?_;intros;(first|refine GO.ef (Ef.m7 rfl rfl (qO (L:=[]) bc bm m1 to item mn b2 ab) (by repeat (first|exact Ent.refl _|apply Ent.take))) ah ?_);rintro _ _⟨_,⟨m2,rfl,⟨e2,l2⟩,rfl⟩,hL⟩;simp only[ax,ap] at hL;subst hL;by_cases a6:(chgH (gFn m1) to item mn).1=0
 case neg =>
  rw[es,if_neg (show ¬(chgH (gFn m1) to item mn).1=0 from a6)] at a0;rw[a0];generalize (chgH (gFn m1) to item mn).1=ec at *;refine Hz ?_;intros;exact KX.d7 an (Ent.trans ae (Ent.d9 gU 3 tHd)) ⟨none,0,[],rfl,⟨by decide,tE (show ¬ec=0 from a6)⟩,rfl⟩
 rw[es,if_pos (show(chgH (gFn m1) to item mn).1=0 from a6),←e2] at a0;have b4:HldI (gFn m2):=by rw[e2];exact b2.chg
 rw[a6];refine Hz ?_;intros;refine⟨(j+1,m2),⟨by dsimp only;omega,b4,by dsimp only;omega,a0⟩,by dsimp only;omega,?_,by exact ae⟩;dsimp only;rw[aK j];exact ai
