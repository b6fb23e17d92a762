/- Lemmas. -/
import Derived.Test.YtlgpgjdggilkgaaGreatDoorErar
import Derived.Defers
import Derived.Recover
import Derived.ChangeKeysEq
set_option linter.all false
namespace Go.Proofs.YtlgpgjdggilkgaaGreatDoor
section
open Go.V
def Ek(l:LL):∀a b:LL,OO l (a++b)=OO l a+OO l b
 | [],b=>by show OO l b=0+OO l b;omega
 | x::a,b=>by
  have:=Ek l a b
  show OV l x+OO l (a++b)=OV l x+OO l a+OO l b;omega
theorem vC(y:gq)(f a n m:Int)(hn:0<=n)(hm:0<=m)(Z:0<=y.2.2):ov y (f,a,n+m)=ov y (f,a,n)+ov y (f,a+n,m):=by
 unfold ov;grind
def xi(f a n m:Int)(hn:0<=n)(hm:0<=m):∀l:LL,(∀y∈l,π y)->OV l (f,a,n+m)=OV l (f,a,n)+OV l (f,a+n,m)
 | [],_=>rfl
 | y::l,h=>by
  have Z:=h y az;unfold π at Z;have J:=vC y f a n m hn hm B;have U:=xi f a n m hn hm l (λz hz=>h z (aB _ hz));show ov y _+OV l _=(ov y _+OV l _)+(ov y _+OV l _);omega
theorem xk(f a:Int):∀l:LL,(∀y∈l,π y)->OV l (f,a,0)=0
 | [],_=>rfl
 | y::l,h=>by
  have U:=xk f a l (λz hz=>h z (aB _ hz))
  have J:ov y (f,a,0)=0:=by
   unfold ov;dsimp only;split<;>omega
  show ov y _+OV l _=0;omega
theorem Ei(l:LL)(x:gq):∀(s:LL) (k:Nat),k<s.length->OO l (s.set k x)=OO l s - OV l s[k]! + OV l x
 | y::s,0,_=>by
  grind [OO]
 | y::s,k+1,h=>by
  have:=Ei l x s k (by simpa using h)
  show OV l y+OO l (s.set k x)=OV l y+OO l s - OV l s[k]! + OV l x;omega
theorem zZ{l:LL}(hl:∀y∈l,π y):∀(Θ out:LL),(∀z∈Θ,H8 z)->(∀z∈out,H8 z)->OO l (Θ.foldl bz out)=OO l out+OO l Θ
 | [],out,_,_=>by show OO l out=OO l out+0;omega
 | x::Θ,out,J,U=>by
  have K:=J x ay;have ih:=zZ hl Θ (bz out x) ay (zF U K)
  have e:OO l (bz out x)=OO l out+OV l x:=by
   unfold bz;by_cases c0:x.2.2=0
   .grind [xk]
   .rw[Ω c0];by_cases c1:out.length≠0/\kw x out[out.length - 1]!
    .rw[μ c1,Ei l _ out _ B];have hb:=U _ (bA (B:out.length - 1<out.length));have hc:=N7.1 c1.2;generalize out[out.length - 1]! = b at *;unfold H8 at hb K;have:=xi b.1 b.2.1 b.2.2 x.2.2 B B l hl
     grind
    .rw[Ω c1,Ek];grind [OO]
  grind [OO]
def zY{w:gq}:∀{l:LL},(∀q∈l,ov q w=0)->OV l w=0
 | [],_=>rfl
 | q::l,h=>by
  have J:=h q az;have U:=zY (l:=l) (λp hp=>h p (aB _ hp));show ov q w+OV l w=0;omega
theorem tG{w:gq}:∀{l:LL} {y:gq},(∀z∈l,π z)->Iu l->y∈l->0<=w.2.2->w.1=y.1->y.2.1<=w.2.1->w.2.1+w.2.2<=y.2.1+y.2.2->OV l w=w.2.2
 | z::l,y,hl,ha,Z,h0,J,U,h3=>by
  obtain⟨I,a2⟩:=List.pairwise_cons.1 ha;have hz:=hl z ay;unfold π at hz;have r:∀q∈l,π q:=ay;show ov z w+OV l w=w.2.2;rcases Jr Z with rfl|Z
  .have e1:ov y w=w.2.2:=by
    unfold ov;rw[μ J.symm];omega
   have e2:OV l w=0:=by
    refine zY (λq hq=>?_);have g1:=I q hq;have g2:=r q hq;unfold apart at g1;unfold π at g2;unfold ov;split<;>omega
   omega
  .have ih:=tG r a2 Z h0 J U h3;have g1:=I y Z;have a3:=r y Z;unfold π at a3;unfold apart at g1
   have e1:ov z w=0:=by
    unfold ov;split<;>omega
   omega
theorem tH{l:LL}(hl:∀z∈l,π z)(ha:Iu l):∀{s:LL},(∀w∈s,π w/\∃y∈l,w.1=y.1/\y.2.1<=w.2.1/\w.2.1+w.2.2<=y.2.1+y.2.2)->OO l s=dU s
 | [],_=>by rw[jz];rfl
 | w::s,h=>by
  obtain⟨J,y,Z,U,h3,h4⟩:=h w az;have ih:=tH hl ha (s:=s) (λq hq=>h q (aB _ hq));unfold π at J;have e:=tG hl ha Z B U h3 h4;rw[fR];show OV l w+OO l s=_;omega
theorem EU{a:LL}(h:∀x∈a,π x){p:gq}(hp:π p):dU (nE a [p])=OV (JN a) p:=by
 have hs:=(py h).2
 have a2:Iu (JN a):=by
  have:=(lF h a.length B).1
  rw[cn] at this;exact uD this
 have I:∀x∈[p],π x:=ay;have e0:jo a [p]=(IP (JN a) p).foldl bz []:=ur _ _;have hX:=(td h I).1;have hin:∀w∈IP (JN a) p,π w/\∃y∈JN a,w.1=y.1/\y.2.1<=w.2.1/\w.2.1+w.2.2<=y.2.1+y.2.2:=by grind [pu]
 have r:Iu (jo a [p]):=by
  rw[e0];refine jP ?_ (λz hz=>?_)
  .grind [li]
  .grind [π]
 have e1:dU (nE a [p])=dU (JN a) - OO (JN a) (jo a [p]):=oh hs hX r
 have e2:OO (JN a) (jo a [p])=OO (JN a) (IP (JN a) p):=by
  rw[e0,zZ hs _ _ (λz hz=>(hin z hz).1.w) ay];show 0+_=_;omega
 grind [tH,qm]
theorem xj{l:LL}{p:gq}(hl:∀y∈l,π y)(hp:π p):OV l p≠0↔∃y∈l,¬apart y p:=by
 constructor
 .intro h;refine Classical.byContradiction (λq=>h ?_);have r:∀y∈l,apart y p:=λy Z=>Classical.byContradiction (λΘ=>q ⟨y,Z,Θ⟩);clear h q;induction l with
  | nil=>rfl
  | cons y l ih =>
   grind [pD,OV]
 .rintro⟨y,Z,hn⟩ e;exact hn ((pD (hl y Z) hp).1 (sK e y Z))
theorem vI{a:LL}(h:∀x∈a,π x)(ha:Iu a){p:gq}(hp:π p):nE a [p]≠[]↔∃y∈a,y.1=p.1/\MW p y:=by
 have hs:=(py h).2;have I:∀x∈[p],π x:=ay;have r:∀z∈nE a [p],π z:=(uq hs (td h I).1).1;have e:=EU h hp;obtain⟨_,_,g3,_⟩:=lF h a.length B;rw[cn] at g3;have e2:OV (JN a) p=OV a p:=ay
 have e3:nE a [p]≠[]↔OV a p≠0:=by
  rw[<-e2,<-e];constructor
  .intro U h3;have:=kg r (List.length_pos_iff.2 U)
   omega
  .grind [jz]
 grind [xj,apart,MW]
end
section
open Go.V
attribute [local irreducible] Δ R GP Ο h2 O Ef A8 A CB GB V.Enters
theorem Fk{d:Int}{fl:List D9}{s:C8}{W:Wk}{m:A9}{mixed:Bool}{k:Nat}{F:Int}(hw:LU k F (W.ο m.Ψ m.aT))(hm:ME m)(h0:¬m.Ψ=0)(he:JY d fl s W m=0):dU (if m.Ζ=[] then iO mixed (W.ο m.Ψ m.aT) m.n else iw (W.ο m.Ψ m.aT) m.Ζ)=dU (W.ο m.Ψ m.aT) - m.n:=by
 have hn:=hm.n;unfold JY at he;rw[Ω h0] at he;by_cases hp:m.Ζ=[]
 .rw[μ hp] at he ⊢;by_cases hq:dU (W.ο m.Ψ m.aT)<m.n
  .omega
  .exact Dg hw.C0 B B
 .rw[Ω hp] at he ⊢;by_cases hq:jB m.Ζ (W.ο m.Ψ m.aT)
  .rcases hm.Ζ with g|⟨_,g2,g3⟩
   .grind
   .rw[Ad hq hw.OX B,g2]
  grind
def C2:List A9->Nat
 | []=>0
 | m::T=>(m.Ζ.length+1)+C2 T
theorem lk:∀(a b:List A9),C2 (a++b)=C2 a+C2 b
 | [],b=>by show C2 b=0+C2 b;omega
 | m::a,b=>by
  have:=lk a b
  show(m.Ζ.length+1)+C2 (a++b)=(m.Ζ.length+1)+C2 a+C2 b;omega
def ES{T:List A9}{i:Nat}(h:i<T.length):C2 (T.take (i+1))=C2 (T.take i)+(T[i]!.Ζ.length+1):=by
 rw[av h,lk,C5 h];rfl
theorem Hs(T:List A9)(i:Nat):C2 (T.take i)<=C2 T:=by
 grind [lk,cz]
def cL(d:Int)(fl:List D9)(fL:Int->Bool)(s:C8)(W:Wk):List A9->Int×Wk
 | []=>(0,W)
 | m::T=>if(ce d fl fL s W m).1=0 then cL d fl fL s (ce d fl fL s W m).2 T else((ce d fl fL s W m).1,W)
noncomputable def E2(S:Χ)(s:C8):Int×Wk :=
 if 65536<=S.hx.length then(4,Jm S)
 else if ¬ge S.ζ S.now s then(1,Jm S)
 else cL S.kQ S.Ι (fm S.ζ) (s.at (cp S)) (Jm S) s.cM
noncomputable def eX(S:Χ)(s:C8):Χ:={ S with ο:=(E2 S s).2.ο,gr:=(E2 S s).2.gr,hx:=S.hx++[s.at (cp S)],Ι:=S.Ι++(E2 S s).2.Ι }
noncomputable def bP(S:Χ)(s:C8):Χ:=if(E2 S s).1=0 then eX S s else S
noncomputable def P3(S:Χ)(s:C8):Int:=if(E2 S s).1=0 then cp S else 0
structure MX (k:Nat) (S:Χ):Prop where
 kQ:0<=S.kQ/\S.kQ<12
 hx:S.hx.length<=65536
 Ι:S.Ι.length<=64*S.hx.length
 ο:∀a i,LU k (S.kQ*4294967296+S.Ι.length) (S.ο a i)
 gr:∀i,-((S.Ι.length:Int)*1099511627776)<=S.gr i/\S.gr i<=1099511627776
 fl:Q6 S.Ι
def Ab{k:Nat}{S:Χ}(h:MX k S):MT S.kQ S.Ι (k+C2 ([]:List A9)) (Jm S):=by
 have e:dZ S.kQ S.Ι.length (Jm S)=S.kQ*4294967296+S.Ι.length:=by
  show S.kQ*4294967296+(S.Ι.length:Int)+((0:Nat):Int)=_;omega
 refine⟨λa i=>by rw[e];exact h.ο a i,λi=>?_,au _,λf hf=>by cases hf⟩;have:=h.gr i
 show -(((S.Ι.length:Int)+((0:Nat):Int))*1099511627776)<=S.gr i/\S.gr i<=1099511627776;omega
def oT{d:Int}{fl:List D9}{fL:Int->Bool}{s:C8}(r:0<=d):∀{T:List A9} {W:Wk} {k:Nat},MT d fl k W->(∀m∈T,ME m)->k+C2 T<=2000->(cL d fl fL s W T).1=0->MT d fl (k+C2 T) (cL d fl fL s W T).2/\(cL d fl fL s W T).2.Ι.length=W.Ι.length+T.length
 | [],_,_,h,_,_,_=>⟨h,rfl⟩
 | m::T,W,k,h,hm,hk,he=>by
  have e:cL d fl fL s W (m::T)=if(ce d fl fL s W m).1=0 then cL d fl fL s (ce d fl fL s W m).2 T else((ce d fl fL s W m).1,W):=rfl;have ek:C2 (m::T)=(m.Ζ.length+1)+C2 T:=rfl;rw[e] at he ⊢;by_cases J:(ce d fl fL s W m).1=0
  .rw[μ J] at he ⊢;obtain⟨g1,g2⟩:=nM r h (hm m az) B J;obtain⟨i1,i2⟩:=oT r (T:=T) g1 (λx K=>hm x (aB _ K)) B he;refine⟨by rw[ek,<-df,<-df];exact i1,?_⟩;rw[i2,g2,aq,bu,aO];omega
  .rw[Ω J] at he;exact iW he J
def Dx{S:Χ}{s:C8}(hp:ge S.ζ S.now s)(h0:0<=S.now):0<=(eX S s).now:=by
 unfold Χ.now eX;simp only[List.getLast?_append,List.getLast?_singleton];have:=hp.2.2.1
 show 0<=s.G;omega
theorem uZ{c:D4}{now:Int}{s:C8}(h:ge c now s):∀m∈s.cM,ME m:=λm hm=>by
 have r:=h.2.2.2.2.1 m hm;refine⟨r.1.2.1,r.1.2.2.1,?_⟩;have h3:=r.2;grind
theorem GN{k:Nat}{S:Χ}{s:C8}(h:MX k S)(hk:k+C2 s.cM<=2000):MX (k+C2 s.cM) (bP S s):=by
 unfold bP;by_cases he:(E2 S s).1=0
 case neg =>
  rw[Ω he];exact⟨h.kQ,h.hx,h.Ι,λa i=>(h.ο a i).mono B B,h.gr,h.fl⟩
 rw[μ he];have a3:=h.hx;have a2:=h.Ι;by_cases J:65536<=S.hx.length
 .grind [E2]
 by_cases U:ge S.ζ S.now s
 case neg =>
  grind [E2]
 have e:E2 S s=cL S.kQ S.Ι (fm S.ζ) (s.at (cp S)) (Jm S) s.cM:=by unfold E2;rw[Ω J,Ω (λq=>q U)]
 have I:=U.2.2.2.1;rw[e] at he;obtain⟨g1,g2⟩:=oT h.kQ.1 (Ab h) (uZ U) (by show k+0+_<=_;omega) he;unfold eX;rw[e];have e0:(Jm S).Ι.length=0:=rfl;rw[e0,cW] at g2
 have r:dZ S.kQ S.Ι.length (cL S.kQ S.Ι (fm S.ζ) (s.at (cp S)) (Jm S) s.cM).2=S.kQ*4294967296+((S.Ι++(cL S.kQ S.Ι (fm S.ζ) (s.at (cp S)) (Jm S) s.cM).2.Ι).length:Int):=by
  unfold dZ;rw[aq];omega
 refine⟨h.kQ,?_,?_,λa i=>?_,λi=>?_,λf hf=>?_⟩
 .grind
 .grind
 .dsimp only;rw[<-r];exact g1.ο a i
 .have:=g1.gr i
  grind
 .rcases It (show f∈S.Ι++_ from hf) with q|q
  .exact h.fl f q
  .exact g1.Ι f q
def KJ(k:Int):Prop:=k=0\/k=1\/k=2\/k=5\/k=6
structure MZ (s:E8):Prop where
 kd:KJ s.Κ
 len:s.cM.length<=1000000
 Ip:id s.Ip
 Ζ:∀m∈s.cM,m.m.Ζ.length<=9223372036854775807
 cap:∀m∈s.cM,m.m.Ζ.length<=m.F6
 bd:∀m∈s.cM,∀p∈m.m.Ζ,p.1<=9223372036854775807
end
end Go.Proofs.YtlgpgjdggilkgaaGreatDoor
namespace Go.V
section
section
variable {P:Program}{N:Nat}{env:Env}{L:LH}{Ν:E1}{ty:TypeId}
def Enters.go{f:FuncId}(h:Enters P f)(args:Array Value)(w:World):(callFunc f args).run P w=.ok (.enter f args) w:=h args w
def Q7(θ:Th)(Α:LH)(pr:Value->LH->Prop)(pp:List PanicEntry->LH->Prop):Ending->World->Prop
 | .returned v,w=>∃Y,pr v Y/\Sat θ (Y++Α) w
 | .panicked ch,w=>∃Y,pp ch Y/\Sat θ (Y++Α) w
 | .outgrown,_=>False
structure Og (P:Program) (f:FuncId) (args:Array Value) (L:LH) (pr:Value->LH->Prop) (pp:List PanicEntry->LH->Prop):Prop where
 enters:Enters P f
 calls:∀θ Α w,Sat θ (L++Α) w->Calls P f args w (Q7 θ Α pr pp)
def Og.mono{f:FuncId}{args:Array Value}{pr I : Value->LH->Prop}{pp r : List PanicEntry->LH->Prop}(h:Og P f args L pr pp)(J:∀v L,pr v L->I v L)(U:∀v L,pp v L->r v L):Og P f args L I r :=
 ⟨h.enters,λθ Α w s=>(h.calls θ Α w s).mono λe ab he=>by
  cases e with
  | returned v=>obtain⟨Y,a,b⟩:=he;exact⟨Y,J _ _ a,b⟩
  | panicked v=>obtain⟨Y,a,b⟩:=he;exact⟨Y,U _ _ a,b⟩
  | outgrown=>exact he⟩
def Og.pre{f:FuncId}{args:Array Value}{Y : LH}{pr:Value->LH->Prop}{pp:List PanicEntry->LH->Prop}(h:Og P f args Y pr pp)(hl:A L Y):Og P f args L pr pp :=
 ⟨h.enters,λθ Α w s=>h.calls θ Α w (hl θ Α w s)⟩
def If(P:Program)(N:Nat)(rs:List ResultVar)(pr:Value->LH->Prop)(pp:List PanicEntry->LH->Prop):E1:=λe env L=>match e with
 | .ret | .normal=>∀θ Α w,Sat θ (L++Α) w->∃vs Y,B6 P N env L rs vs/\Sat θ (Y++Α) w/\pr (KD vs) Y
 | .panic ch=>∃Y,A L Y/\pp ch Y
 | _=>False
def kV{fn:Func}{tmps:Array Value}{Α:Ending->World->Prop}{θ:Th}{η:LH}{u:FrameMode}(hu:u≠.run):∀(ξ:List Nat) (w:World),Sat θ (C6 ξ++η) w->(∀ab,Sat θ η ab->LeavesIn Fence.wide 0 P fn tmps Α [] u ab)->LeavesInM Fence.wide 0 P fn tmps Α (Lj ξ) u w
 | [],w,s,h=>h w s
 | F0::ξ,w,s,h=>by
  have s0:Sat θ (h1 F0 (.deferred (some []))::(C6 ξ++η)) w:=s;have hb:=s0.IN;refine⟨hu,.inl ⟨F0,{ w with heap:=w.heap.setIfInBounds F0 (.deferred none) },rfl,?_,?_⟩⟩
  .simp[Instr.takeDeferred,getObj,setObj,Sem.run,hb,bind,Sem.bind,pure]
  .have r:F0<w.heap.size:=(Array.getElem?_eq_some_iff.1 hb).1
   have s1:Sat θ (h1 F0 (.deferred none)::(C6 ξ++η)) { w with heap:=w.heap.setIfInBounds F0 (.deferred none) }:=by
    refine s0.update ⟨s.1.tape,s.1.os,s.1.output,s.1.drawn⟩ (by simp[r]) ?_;intro k x hk K;simp only[Array.getElem?_setIfInBounds];rw[Ω (λe=>hk e.symm)];exact K
   exact kV hu ξ _ s1.tail h
def JI.c7{fn:Func}{args:LV}(hN:fn.ntmps=N)(I : args.length<=N):JI N (Kr args 0) { tmps:=args.toArray++Array.replicate (fn.ntmps - args.toArray.size) undef,defers:=[] }:=by
 refine⟨by simp[hN];omega,?_⟩;intro t v ht;rw[qf] at ht;simp at ht;have r:t<args.length:=(List.getElem?_eq_some_iff.1 ht).1;rw[Array.getElem?_append_left (by simpa using r)];simpa using ht
def Og.body{f:FuncId}{fn:Func}{c:Code}{args:LV}{pr:Value->LH->Prop}{pp:List PanicEntry->LH->Prop}{rs:List ResultVar}(N:Nat)
  (he:Enters P f) (hf:P.funcs[f]? = some fn) (hb:fn.body=some c) (hr:fn.results=rs.toArray) (hN:fn.ntmps=N) (a6 : args.length<=N)
  (h:Δ P N c (Kr args 0) L (If P N rs pr pp)):Og P f args.toArray L pr pp:=by
 refine⟨he,λθ Α w s=>(callsIn_wide (n:=0)).1 (callsIn_of_wp_marks hf hb trivial ?_)⟩;refine wpIn_mono (h none θ Α _ w (λl hl=>by cases hl) ⟨[],JI.c7 hN a6,rfl,s⟩) ?_;rintro e a' ab ⟨a3,Y,⟨ξ,a5,hm,s'⟩,hex⟩
 have s1:Sat θ (C6 ξ++(Y++Α)) ab:=s'.perm (by
  rw[<-ax,<-ax];exact List.perm_append_comm.append_right Α)
 have a2:(∀θ Α w,Sat θ (Y++Α) w->∃vs Mt,B6 P N a3 Y rs vs/\Sat θ (Mt++Α) w/\pr (KD vs) Mt)->LeavesInM Fence.wide 0 P fn a'.tmps (Q7 θ Α pr pp) a'.defers .returning ab:=by
  intro a4;rw[hm];refine kV bR ξ ab s1 λw₂ s₂=>?_;obtain⟨vs,Mt,a7,I,r⟩:=a4 θ Α w₂ s₂;exact⟨_,ri (P:=P) a5 s₂ hr a7,Mt,r,I⟩
 cases e with
 | ret=>exact a2 hex
 | normal=>exact a2 hex
 | panic ch =>
  obtain⟨Mt,I,r⟩:=hex;show LeavesInM Fence.wide 0 P fn a'.tmps (Q7 θ Α pr pp) a'.defers (.panicking ch) ab;rw[hm];refine kV bR ξ ab s1 λw₂ s₂=>?_;exact⟨Mt,r,I θ Α w₂ s₂⟩
 | exit F=>exact hex.elim
 | goto l=>exact hex.elim
 | outgrown=>exact hex.elim
def R.panic{I:Array Oper}{ic:List Oper}{x:Operand}{t:TypeId}{v:Value}{pos:String}{af:Array Edge}(K:χ env x=some (.iface t v))(h:Ν (.panic [{ v:=.iface t v,recovered:=false }]) env L):R P N I (⟨none,.panic x,ty,pos,af,none⟩::ic) env L Ν:=by
 intro Θ θ η a w hr i;refine wpListIn_plain rfl λK' hK=>kZ (λc hc=>by cases hc) ?_
 have r:(execOp a.eval ⟨none,.panic x,ty,pos,af,none⟩).run P w=.halt (.panic (.iface t v)) w:=by
  simp[execOp,aH i.KF K,Instr.panic,goPanic]
 rw[Oper.wp,r,Oper.upon_panic];exact⟨env,L,i,h⟩
structure Q8 (N:Nat) (env:Env) (L:LH) (θ:Th) (Α:LH) (F0:List Deferred) (a:Act) (w:World):Prop where
 Oy:JI N env a
 TO:a.defers=F0
 sat:Sat θ (L++Α) w
def Q8.υ{θ:Th}{Α:LH}{F0:List Deferred}{a:Act}{w:World}{Y : LH}(h:Q8 N env L θ Α F0 a w)(hl:A L Y):Q8 N env Y θ Α F0 a w:=⟨h.Oy,h.TO,hl θ Α w h.sat⟩
end
end
section
section
variable {P:Program}{L:LH}{env:Env}{ty:TypeId}
def O.A1{t yt:TypeId}{x y:Operand}{k:IntKind}{a:Int}(K:χ env x=some (E a))(Z:χ env y=some (.int k 32)):O P L env (.binOp .shr t x y yt) ty (E (a / 4294967296)):=by
 have h:=O.shr (P:=P) (L:=L) (ty:=ty) (t:=t) (yt:=yt) K Z ac
 have e:a.fdiv (2 ^ min (32:Int).toNat IntKind.i64.bits)=a / 4294967296:=by
  rw[show(2:Int) ^ min (32:Int).toNat IntKind.i64.bits=4294967296 by decide];exact dh a ac
 rw[e] at h;exact h
def O.A2{t yt:TypeId}{x y:Operand}{k:IntKind}{a:Int}(K:χ env x=some (E a))(Z:χ env y=some (.int k 32))(h0 : -2147483648<=a)(J:a<=2147483647):O P L env (.binOp .shl t x y yt) ty (E (a*4294967296)):=by
 have h:=O.shl (P:=P) (L:=L) (ty:=ty) (t:=t) (yt:=yt) K Z ac
 have e:IntKind.i64.wrap (a*2 ^ min (32:Int).toNat IntKind.i64.bits)=a*4294967296:=by
  rw[show(2:Int) ^ min (32:Int).toNat IntKind.i64.bits=4294967296 by decide];exact wrap_i64 B B
 rw[e] at h;exact h
end
end
end Go.V
namespace Go.Proofs.YtlgpgjdggilkgaaGreatDoor
section
open Go.V
attribute [local irreducible] Δ R GP Ο h2 O Ef A8 A CB GB V.Enters
def du(fl:List D9):LL:=(fl.filter (λf=>decide (f.Κ=5))).flatMap (·.Ζ)
def iS(fl:List D9):LL:=(fl.filter (λf=>decide (f.Κ=9/\f.Ψ=0))).flatMap (·.Ζ)
def MF(d:Int):LL->LL->Int
 | [],_=>0
 | p::ps,l=>if p.1 / 4294967296=d\/11<p.1 / 4294967296 then 1 else if ∃y∈MV l p.1,MW p y then 8 else MF d ps (l++[p])
theorem EP(l:LL)(p:gq)(f:Int):MV (l++[p]) f=if p.1=f then MV l f++[p] else MV l f:=by
 grind [MV]
theorem th{d:Int}{p:gq}{ps l:LL}:MF d (p::ps) l=if p.1 / 4294967296=d\/11<p.1 / 4294967296 then 1 else if ∃y∈MV l p.1,MW p y then 8 else MF d ps (l++[p]):=rfl
end
section
open Go.V
def Pu(fl:List D9):Prop:=∀f∈fl,(∀x∈f.Ζ,π x)/\((f.Κ=5\/(f.Κ=9/\f.Ψ=0))->Iu f.Ζ)
theorem Q9{fl:List D9}{y:gq}:y∈du fl↔∃f∈fl,f.Κ=5/\y∈f.Ζ:=by
 grind [du]
def Ds{fl:List D9}(h:Pu fl):∀y∈du fl,π y:=λy Z=>by
 obtain⟨f,hf,_,Z⟩:=Q9.1 Z;exact(h f hf).1 y Z
theorem DY{fl:List D9}(h:Pu fl){p:gq}(hp:π p):pN fl p↔∃y∈MV (du fl) p.1,MW p y:=by
 unfold pN;constructor
 .rintro⟨f,hf,hk,hm⟩;obtain⟨y,Z,J,U⟩:=(vI (h f hf).1 ((h f hf).2 (.inl hk)) hp).1 hm;grind [O0,Q9]
 .rintro⟨y,Z,U⟩;obtain⟨Z,J⟩:=O0.1 Z;obtain⟨f,hf,hk,Z⟩:=Q9.1 Z;exact⟨f,hf,hk,(vI (h f hf).1 ((h f hf).2 (.inl hk)) hp).2 ay⟩
theorem vZ{d:Int}{fl:List D9}(h:Pu fl):∀(ps dn:LL),(∀p∈ps,π p)->Iu ps->(∀Ξ∈dn,∀p∈ps,apart Ξ p)->MF d ps (du fl++dn)=Pt d fl ps
 | [],_,_,_,_=>rfl
 | p::ps,dn,J,U,h3=>by
  obtain⟨I,a2⟩:=List.pairwise_cons.1 U;have hp:=J p ay;have ih:=vZ (d:=d) h ps (dn++[p]) ay a2 ay
  have e:(∃y∈MV (du fl++dn) p.1,MW p y)↔pN fl p:=by
   rw[DY h hp];constructor
   .grind [O0,apart,MW]
   .grind [O0]
  grind [th,Q5,Pt]
theorem GI{d:Int}{fl:List D9}(h:Pu fl){ps:LL}(J:∀p∈ps,π p)(U:Iu ps):MF d ps (du fl)=Pt d fl ps:=by
 have:=vZ (d:=d) h ps [] J U ay
 grind
end
section
open Go.V
attribute [local irreducible] Δ R GP Ο h2 O Ef A8 A CB GB V.Enters
end
section
open Go.V
def R7(d:Int)(fl:List D9):Prop:=∀k,k<fl.length->fl[k]!.F=d*4294967296+k/\1<=fl[k]!.n/\fl[k]!.n<=1099511627776
end
section
open Go.V
attribute [local irreducible] Δ R GP Ο h2 O Ef A8 A CB GB V.Enters
def pL(k:Int)(m:A9):Prop :=
 if k=0 then m.Ψ=0/\m.Ζ.length=0 else if k=1\/k=6 then m.to=0/\m.Ζ.length=0 else if k=2\/k=3\/k=8 then m.Ψ≠0/\m.to≠0/\m.Ζ.length=0
 else if k=5 then m.Ψ=0/\jm m.Ζ m.n else if k=7 then m.Ψ≠0/\jm m.Ζ m.n else if k=9 then m.to≠0/\jm m.Ζ m.n else m.Ζ.length=0
theorem HD{p q:Prop}[Decidable p][Decidable q](h:p↔q):dB p=dB q:=by
 grind
end
end Go.Proofs.YtlgpgjdggilkgaaGreatDoor
namespace Go.V
section gf
variable {P:Program}{N:Nat}{ops:Array Oper}{done done' : List Nat}{n:Nat}{D3:List PE}{env env' : Env}{L Y : LH}{Ν:E1}
def GF.LO(hd:(dt ops.size done == dt ops.size done')=true)(he:J9 env env')(hL:A L Y)(h:GF P N ops done' n D3 env' Y Ν):GF P N ops done n D3 env L Ν:=by
 have e:=eq_of_beq hd;intro hK hs r θ η a w S i I a2;rw[e] at r ⊢;exact h hK hs r θ η a w S (i.less he hL) I a2
def GF.υ(hL:A L Y)(h:GF P N ops done n D3 env Y Ν):GF P N ops done n D3 env L Ν:=λhK hs r θ η a w S i I a2=>h hK hs r θ η a w S (i.less (J9.refl _) hL) I a2
end gf
end Go.V
namespace Go.Proofs.YtlgpgjdggilkgaaGreatDoor
section
open Go.V
attribute [local irreducible] Δ R GP Ο h2 O Ef A8 A CB GB V.Enters
def Oi(k:Nat)(Κ:Int)(m:A9):Prop:=(0<=m.aT/\m.aT<k)/\(1<=m.n/\m.n<=1099511627776)/\K7 m.Ψ/\K7 m.to/\m.Ψ≠m.to/\pL Κ m
theorem qt{k:Nat}{Κ:Int}{m:A9}(h:0<=Κ/\Κ<=10):Oi k Κ m↔BB k (gO Κ) m/\(Κ≠4->Κ≠10->iD Κ m):=by
 have e:gO Κ=true↔Κ=5\/Κ=7\/Κ=9:=by unfold gO;rw[dd,decide_eq_true_iff]
 have hp:=@ro m.Ζ m.n;unfold Oi BB pO K7;by_cases h5:Κ=5
 .grind [iD,pL]
 by_cases h7:Κ=7
 .grind [iD,pL]
 by_cases h9:Κ=9
 .grind [iD,pL]
 rw[Ω ay];unfold iD pL;by_cases h0:Κ=0
 .grind
 rw[Ω h0,Ω (show ¬(Κ=0\/Κ=5) from λq=>q.elim h0 h5)];by_cases J:Κ=1\/Κ=6
 .rw[μ J,μ J];constructor
  .rintro⟨a,b,c,Ξ,f,g1,g2⟩;exact⟨⟨⟨a,b,f,B⟩,g2⟩,λ_ _=>g1⟩
  .rintro⟨⟨⟨a,b,f,c⟩,g2⟩,g1⟩;exact⟨a,b,B,B,f,g1 B B,g2⟩
 grind
def lT(rules:List Pj)(s:C8):Prop:=if s.Κ=4 then DW rules s.Ip s.J4 s.cM else if s.Κ=10 then FM s else s.Ip = -1/\s.J4=0
theorem Ra{c:D4}{now:Int}{s:C8}:ge c now s↔(0<=s.Κ/\s.Κ<=10)/\K7 s.MB/\(now<=s.G/\s.G<=1099511627776)/\(1<=s.cM.length/\s.cM.length<=64)/\(∀m∈s.cM,Oi c.B5.length s.Κ m)/\lT c.rules s:=by
 unfold ge ol lT;constructor
 .grind [qt]
 grind [qt]
end
section
open Go.V
structure NR (Κ:Int) (m:A9):Prop where
 g:ME m
 imp:Κ=5->m.Ψ=0
 st:Κ=5\/Κ=7\/Κ=9->jm m.Ζ m.n
theorem CS{m:A9}{Κ:Int}{k:Nat}(hk:0<=Κ/\Κ<=10)(h:Oi k Κ m):NR Κ m:=by
 obtain⟨J,U⟩:=(qt hk).1 h;obtain⟨h3,h4⟩:=J;have e:gO Κ=true↔Κ=5\/Κ=7\/Κ=9:=by unfold gO;rw[dd,decide_eq_true_iff]
 refine⟨⟨h3.2.1,h3.2.2.1,?_⟩,λh5=>?_,λhs=>?_⟩
 .grind
 .grind [iD]
 grind [ro]
theorem pX(fl:List D9)(f:D9):du (fl++[f])=du fl++(if f.Κ=5 then f.Ζ else[]):=by
 grind [du]
theorem pT(fl:List D9)(f:D9):iS (fl++[f])=iS fl++(if f.Κ=9/\f.Ψ=0 then f.Ζ else[]):=by
 grind [iS]
structure Oj (d:Int) (fl:List D9) (k:Nat) (W:Wk):Prop where
 g:MT d fl k W
 fa:Pu (fl++W.Ι)
 fn:R7 d (fl++W.Ι)
 il:(du (fl++W.Ι)).length<=k
 rl:(iS (fl++W.Ι)).length<=k
theorem rE{fL:Int->Bool}{s:C8}{W:Wk}{m:A9}(hm:NR s.Κ m)(h:s.Κ=5\/(s.Κ=9/\m.Ψ=0)):La fL s W m=m.Ζ:=by
 have h0:m.Ψ=0:=by
  rcases h with h|h
  .exact hm.imp h
  .exact h.2
 grind [La]
theorem zT{d:Int}{fl:List D9}{fL:Int->Bool}{s:C8}{W:Wk}{k:Nat}{m:A9}(a2:0<=d)(h:Oj d fl k W)(hm:NR s.Κ m)(hk:k+m.Ζ.length<=2000)(he:(ce d fl fL s W m).1=0):Oj d fl (k+m.Ζ.length+1) (ce d fl fL s W m).2:=by
 obtain⟨g1,g2⟩:=nM a2 h.g hm.g hk he
 have r:JY d (fl++W.Ι) s W m=0:=by
  unfold ce at he;by_cases J:JY d (fl++W.Ι) s W m≠0
  .grind
  .omega
 obtain⟨p1,_⟩:=Dy (fL:=fL) h.g hm.g hk r;have il:=h.il;have rl:=h.rl;refine⟨g1,?_,?_,?_,?_⟩
 .rw[g2,<-ax];intro f hf;rcases It hf with hf|hf
  .exact h.fa f hf
  .rw[D6 hf];refine⟨p1,λhq=>?_⟩;show Iu (La fL s W m);rw[rE hm hq];exact(hm.st (by rcases hq with hq|hq;exact .inl hq;exact .inr (.inr hq.1))).2.1
 .rw[g2,<-ax];intro j hj;rw[aq,bu] at hj;by_cases I:j<(fl++W.Ι).length
  .have:=h.fn j I
   grind
  .obtain rfl:j=(fl++W.Ι).length:=B;rw[C5 ay,dP B];simp only[Nat.sub_self,List.getElem_cons_zero];refine⟨?_,hm.g.n⟩;show dZ d fl.length W=_;grind [dZ]
 .grind [pX,fV,rE]
 grind [pT,fV,rE]
def gi(a i:Int):List A9->Nat
 | []=>0
 | m::T=>((if m.to=a/\m.aT=i then 1 else 0)+(if m.Ψ=a/\m.aT=i then m.Ζ.length else 0))+gi a i T
def oa(a i:Int):∀x y:List A9,gi a i (x++y)=gi a i x+gi a i y
 | [],y=>by show gi a i y=0+gi a i y;omega
 | m::x,y=>by
  have:=oa a i x y
  show((if m.to=a/\m.aT=i then 1 else 0)+(if m.Ψ=a/\m.aT=i then m.Ζ.length else 0))+gi a i (x++y)=((if m.to=a/\m.aT=i then 1 else 0)+(if m.Ψ=a/\m.aT=i then m.Ζ.length else 0))+gi a i x+gi a i y;omega
theorem Fi{d:Int}{fl:List D9}{fL:Int->Bool}{W:Wk}{k:Nat}{m:A9}(h:MT d fl k W)(hm:ME m)(a i:Int):(Jf fL W m a i).length<=(W.ο a i).length+(if m.Ψ=a/\m.aT=i then m.Ζ.length else 0):=by
 unfold Jf;by_cases h0:m.Ψ=0
 .grind
 rw[Ω h0];unfold K9;by_cases ha:a=m.Ψ/\i=m.aT
 case neg =>
  grind
 rw[μ ha,μ ay];obtain⟨rfl,rfl⟩:=ha;unfold uc;by_cases hp:m.Ζ=[]
 .rw[μ hp];exact aQ (mX _ _ _).2 B
 .rw[Ω hp];have hs:=h.ο m.Ψ m.aT;exact(zi (⟨au _,hs.ok,hs.OX⟩:LU (W.ο m.Ψ m.aT).length _ _) hm.C0).len
theorem DB{d:Int}{fl:List D9}{fL:Int->Bool}{s:C8}{W:Wk}{k:Nat}{m:A9}(h:MT d fl k W)(hm:ME m)(he:(ce d fl fL s W m).1=0)(a i:Int):((ce d fl fL s W m).2.ο a i).length<=(W.ο a i).length+gi a i [m]:=by
 have h9:=Fi (fL:=fL) h hm a i;have e1:gi a i [m]=((if m.to=a/\m.aT=i then 1 else 0)+(if m.Ψ=a/\m.aT=i then m.Ζ.length else 0))+0:=rfl;rw[e1];unfold ce at he ⊢;by_cases J:JY d (fl++W.Ι) s W m≠0
 .grind
 rw[Ω J] at he ⊢;by_cases U:dj W m>1099511627776
 .grind
 rw[Ω U] at he ⊢;by_cases h3:m.to=0
 .rw[μ h3];grind
 rw[Ω h3] at he ⊢;by_cases h4:4096<=(Jf fL W m m.to m.aT).length
 .grind
 rw[Ω h4];grind [K9,oI]
structure MG (k:Nat) (S:Χ):Prop where
 g:MX k S
 fa:Pu S.Ι
 fn:R7 S.kQ S.Ι
 il:(du S.Ι).length<=k
 rl:(iS S.Ι).length<=k
def Ac{k:Nat}{S:Χ}(h:MG k S):Oj S.kQ S.Ι k (Jm S):=by
 have e:S.Ι++(Jm S).Ι=S.Ι:=aJ _;refine⟨Ab h.g,?_,?_,?_,?_⟩
 .rw[e];exact h.fa
 .rw[e];exact h.fn
 .rw[e];exact h.il
 .rw[e];exact h.rl
def wu{d:Int}{fl:List D9}{fL:Int->Bool}{s:C8}(I:0<=d):∀{T:List A9} {W:Wk} {k:Nat},Oj d fl k W->(∀m∈T,NR s.Κ m)->k+C2 T<=2000->(cL d fl fL s W T).1=0->Oj d fl (k+C2 T) (cL d fl fL s W T).2/\∀a i,((cL d fl fL s W T).2.ο a i).length<=(W.ο a i).length+gi a i T
 | [],_,_,h,_,_,_=>⟨h,λ_ _=>au _⟩
 | m::T,W,k,h,hm,hk,he=>by
  have e:cL d fl fL s W (m::T)=if(ce d fl fL s W m).1=0 then cL d fl fL s (ce d fl fL s W m).2 T else((ce d fl fL s W m).1,W):=rfl;have ek:C2 (m::T)=(m.Ζ.length+1)+C2 T:=rfl;rw[e] at he ⊢;by_cases J:(ce d fl fL s W m).1=0
  .rw[μ J] at he ⊢;have r:=hm m az;obtain⟨i1,i2⟩:=wu I (T:=T) (zT I h r B J) (λx K=>hm x (aB _ K)) B he;refine⟨by rw[ek,<-df,<-df];exact i1,λa i=>?_⟩;have g1:=i2 a i;have g2:=DB h.g r.g J a i;have g3:gi a i (m::T)=gi a i [m]+gi a i T:=oa a i [m] T;omega
  .rw[Ω J] at he;exact iW he J
theorem nv{c:D4}{now:Int}{s:C8}(h:ge c now s):∀m∈s.cM,NR s.Κ m:=by grind [CS,Ra]
theorem zS{k:Nat}{S:Χ}{s:C8}(h:MG k S)(hk:k+C2 s.cM<=2000):MG (k+C2 s.cM) (bP S s)/\∀a i,((bP S s).ο a i).length<=(S.ο a i).length+gi a i s.cM:=by
 have g0:=GN h.g hk;have il:=h.il;have rl:=h.rl;by_cases he:(E2 S s).1=0
 case neg =>
  have e:bP S s=S:=Ω he;rw[e] at g0 ⊢;exact⟨⟨g0,h.fa,h.fn,B,B⟩,λa i=>B⟩
 have e:bP S s=eX S s:=μ he;rw[e] at g0 ⊢;by_cases J:65536<=S.hx.length
 .grind [E2]
 by_cases U:ge S.ζ S.now s
 case neg =>
  grind [E2]
 have e:E2 S s=cL S.kQ S.Ι (fm S.ζ) (s.at (cp S)) (Jm S) s.cM:=by unfold E2;rw[Ω J,Ω (λq=>q U)]
 rw[e] at he;obtain⟨g1,g2⟩:=wu (T:=s.cM) (s:=s.at (cp S)) h.g.kQ.1 (Ac h) (nv U) hk he;rw[<-e] at g1 g2;exact⟨⟨g0,g1.fa,g1.fn,g1.il,g1.rl⟩,g2⟩
end
section
open Go.V
attribute [local irreducible] Δ R GP Ο h2 O Ef A8 A CB GB V.Enters
def P4(s:Int):Int×Int:=if s<0 then(0,10) else if 1099511627776<s then(0,4) else(s,0)
def Pv(m:A9):Int:=(if m.Ψ=0 then m.n else 0) - (if m.to=0 then m.n else 0)
structure Rb (B5:Int) (t:List Int):Prop where
 len:t.length=B5.toNat
 bd:∀i,i<t.length->0<=t[i]!/\t[i]!<=1099511627776
theorem GW{s:Int}(h:(P4 s).2=0):(P4 s).1=s/\0<=s/\s<=1099511627776:=by
 grind [P4]
theorem Rb.set{B5:Int}{t:List Int}(h:Rb B5 t){k:Nat}{s:Int}(hs:(P4 s).2=0):Rb B5 (t.set k (P4 s).1):=by
 obtain⟨e,b1,b2⟩:=GW hs;refine⟨by rw[bq];exact h.len,λi hi=>?_⟩;rw[bq] at hi;rw[e,C5 ay,eK];split
 .omega
 .have:=h.bd i hi
  grind
end
end Go.Proofs.YtlgpgjdggilkgaaGreatDoor
namespace Go.V
def mh{P:Program}{Τ:TypeId}(h:P.underlying Τ=some (.int .i64)):∀w,(isAgg Τ).run P w=.ok false w:=λw=>by simp[isAgg,run_underlying h]
def uN{P:Program}{Ν Τ:Nat}[h:OL P Ν 2 Τ 1][he:LP P Τ .i64](a b:Int×Int)(w:World):(Op.equal Ν (B7 a) (B7 b)).run P w=.ok (decide (a=b)) w:=by
 have hE:=he.under;have hi:=h.size;cases K:P.info? Τ with
 | none=>rw[K] at hi;cases hi
 | some i =>
  have hc:P.cellsOf Τ=1:=by
   rw[K] at hi;simp[Program.cellsOf,K] at hi ⊢;exact hi
  obtain⟨I,a2⟩:=a;obtain⟨b1,b2⟩:=b;have hq:=run_equalIn_array (P:=P) (w:=w) 9999 #[E I,E a2] #[E b1,E b2] h.under K;have e0:∀(c Ξ:Int) (w:World),(part Τ #[Value.int .i64 c,Value.int .i64 Ξ] 0).run P w=.ok (E c) w:=λc Ξ w=>fP (mh hE) rfl;have e1:∀(c Ξ:Int) (w:World),(part Τ #[Value.int .i64 c,Value.int .i64 Ξ] 1).run P w=.ok (E Ξ) w:=λc Ξ w=>fP (mh hE) rfl;show(Op.equalIn (9999+1) Ν (.agg #[E I,E a2]) (.agg #[E b1,E b2])).run P w=_;rw[hq,hc];have q:=λc Ξ=>run_equalIn_int (P:=P) w 9998 Τ .i64 .i64 c Ξ hE;rw[show List.range 2=[0,1] from rfl];simp only[Op.eqItems,Sem.run_bind,Nat.zero_mul,Nat.one_mul,e0,e1,Result.andThen_ok,q];by_cases J:I=b1
  .by_cases U:a2=b2
   .simp[J,U,e1,q]
   .simp[J,U,e1,q]
  .simp[J]
theorem Nw{P:Program}{Ν Τ:Nat}[h:OL P Ν 2 Τ 1][he:LP P Τ .i64]:LQ P Ν B7 where
 inj a b h:=by
  simp[B7] at h;exact Prod.ext h.1 h.2
 check e k w:=by
  have hE:=he.under;have e0:∀(c Ξ:Int) (w:World),(part Τ #[Value.int .i64 c,Value.int .i64 Ξ] 0).run P w=.ok (E c) w:=λc Ξ w=>fP (mh hE) rfl;have e1:∀(c Ξ:Int) (w:World),(part Τ #[Value.int .i64 c,Value.int .i64 Ξ] 1).run P w=.ok (E Ξ) w:=λc Ξ w=>fP (mh hE) rfl;have e2:∀(m:Nat) (c:Int) (w:World),(Instr.checkKey e (m+1) Τ (E c)).run P w=.ok () w:=λm c w=>by simp[Instr.checkKey,run_underlying hE]
  have r:∀m,(Instr.checkKey e (m+1+1) Ν (.agg #[E k.1,E k.2])).run P w=.ok () w:=by
   intro m;rw[Instr.checkKey];simp only[Sem.run_bind,run_underlying h.under,Result.andThen_ok];simp[Std.Legacy.Range.forIn_eq_forIn_range',Std.Legacy.Range.size,List.range'_succ,h.L5,e0,e1,e2]
  exact r 9998
 bits k:=by
  have:∀n,Instr.sameBits (n+1) (B7 k) (B7 k)=true:=λn=>by simp[Instr.sameBits,B7]
  exact this 9999
 find k es ks w he':=by
  have hq:∀a b:Int×Int,(Op.equal Ν (B7 a) (B7 b)).run P w=.ok (decide (a=b)) w:=λa b=>uN a b w;have U:=km (P:=P) (Ν:=Ν) (w:=w) hq k es ks 0 he';simp only[Instr.findKey,Sem.run_bind,run_underlying h.under,Result.andThen_ok];cases es with
  | nil =>
   cases ks with
   | nil=>simp[Instr.findNow]
   | cons _ _=>simp at he'
  | cons x es =>
   cases ks with
   | nil=>simp at he'
   | cons q ks =>
    have hn:Instr.findNow (.array 2 Τ) (B7 k) (x::es) 0=none:=by simp[Instr.findNow,Instr.sameNow]
    rw[hn];simp only[cW] at U;exact U
