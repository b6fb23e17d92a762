/- Lemmas. -/
import Derived.Test.YtlgpgjdggilkgaaGreatDoorEcai
set_option linter.all false
set_option maxHeartbeats 1000000
namespace Go.Proofs.YtlgpgjdggilkgaaGreatDoor
section
open Go.V
abbrev wrL(b:Nat)(xs:List Int)(x:SlV)(L:LH):LH:=obj b 368 [ag x.ad xs.length x.cap]::osl (encZ .u8) 1 5 x.ad x.cap xs::L
def WrR(b:Nat)(xs:List Int):HP:=hex fun x:SlV=>cm (wrL b xs x [])
def oa{b:Nat}{xs:List Int}{L:LH}(x:SlV):Ent (wrL b xs x L) (WrR b xs::L):=Ent.g8 (f:=fun x=>wrL b xs x []) x (Ent.refl _)
attribute [local irreducible] G GO GP GPW GPK GF GE Ev Ef EfR Ent CB GB V.Enters
def rL{L:LH}(ad:OA)(n c:Nat)(xs:List Int)[Rds L ad Int (encZ .u8) 1 xs](hn:n=xs.length)(hb:n≤1000000000) :
  Tri Tryz.prog 279 #[ag ad n c] L (fun v L'=>∃a1 a0,v=ag a1 xs.length a0∧L' = osl (encZ .u8) 1 5 a1 a0 xs::L):=by
 refine Tri.bd ?_;repeat' first|refine aa ?_|intro _|with_reducible refine CB.dec (fun _=>?_) (fun _=>?_)|with_reducible refine GB.dec (fun _=>?_) (fun _=>?_)|with_reducible refine CB.bool (fun _=>?_) (fun _=>?_)|with_reducible refine GB.bool (fun _=>?_) (fun _=>?_)
 ·have h:ad=none:=by assumption
  subst h;refine KX.f7 (.inl rfl) (mI (L:=L) (xs:=xs)) ?_;intro hx;subst hx;refine KX.a8 aA (Ent.c8 (encZ .u8) 1 5) ⟨_,_,rfl,rfl⟩
 ·refine GO.ent (Ent.f7 (enc:=encZ .u8) (sz:=1) (xs:=[]) rfl rfl cc cc) ?_;refine GO.ef (Ef.d7 rfl rfl rfl rfl hn (fun e _=>iu _ e) gJ gJ) ae ?_;rintro _ _⟨a1,a0,rfl,rfl⟩;refine Ks ?_;intros;refine KX.a8 aA (Ent.refl _) ⟨a1,a0,rfl,rfl⟩
def sQ{L:LH}(b:Nat)(xs:List Int)(n:Nat)(hn:n<18446744073709551616)(hx:xs.length≤1000000) :
  Tri Tryz.prog 306 #[ax b,.int .u64 n] (WrR b xs::L) (fun _ L'=>L' = WrR b (xs++uv n)::L):=by
 have a5:=ie hn;refine Tri.bd (args:=[ax b,.int .u64 (n:Int)]) ?_;refine G.c8 (f:=fun x=>wrL b xs x []) ?_;intro x;simp only[al,ak];refine Ks ?_;intros;refine G.loop (α:=Nat×List Int×SlV) (fun g=>g.1<18446744073709551616∧g.2.1++uv g.1=xs++uv n) (fun g=>[(0,ax b),(1,.int .u64 (g.1:Int))]) (fun g=>wrL b g.2.1 g.2.2 L) (fun g=>g.1) (n,xs,x) ⟨hn,rfl⟩ aC (Ent.refl _) ?_;rintro⟨m,ys,y⟩ ⟨hm,a1⟩;simp only[] at hm a1 ⊢;have a4:=congrArg List.length a1;simp only[aj] at a4;by_cases a2:m<128
 ·rw[lp a2] at a1;refine Ks ?_;intros;refine GO.ef (Ef.a8 (e:=(m:Int)) rfl rfl rfl rfl rfl aQ (iu _ _) ab ab) ae ?_;rintro _ _⟨a3,a0,rfl,rfl⟩;rw[a1];refine Ks ?_;intros;refine KX.c8 aA ?_ rfl;refine Ent.trans ?_ (oa ⟨a3,0,a0⟩);simp only[wrL];exact ah
 ·rw[pL a2] at a1;refine Ks ?_;intros
  have e1:IntKind.u8.wrap (m:Int)=((m % 256:Nat):Int):=by
   rw[IntKind.wrap_u8'];omega
  rw[e1];refine GO.ev (Ev.or8 rfl rfl ab ab ae ae) ae ?_;rw[aY,show(128:Int).toNat=128 from rfl,Ke (m % 256) ab,show m % 256 % 128=m % 128 by omega];refine Ks ?_;intros;refine GO.ef (Ef.a8 (e:=((m % 128+128:Nat):Int)) rfl rfl rfl rfl rfl aQ (iu _ _) ab ab) ae ?_;rintro _ _⟨a3,a0,rfl,rfl⟩;refine Ks ?_;intros;refine GO.ev (Ev.shr rfl rfl ae) ae ?_
  have e2:((m:Nat):Int).fdiv (2 ^ min ((7:Int).toNat) IntKind.u64.bits)=((m / 128:Nat):Int):=by
   rw[dG _ ae];simp[IntKind.bits]
  rw[e2];refine Ks ?_;intros;refine⟨(m / 128,ys++[((m % 128+128:Nat):Int)],⟨a3,0,a0⟩),⟨by simp only[];omega,by simp only[aB,al,ak];exact a1⟩,by simp only[];omega,aC,?_⟩;simp only[wrL];exact ah
def Gr{x:Nat}(h:x<18446744073709551616):x ^^^ 18446744073709551615=18446744073709551615 - x:=by
 have h1:(BitVec.ofNat 64 x ^^^ BitVec.allOnes 64).toNat=(~~~ BitVec.ofNat 64 x).toNat:=by rw[BitVec.xor_allOnes]
 rw[BitVec.toNat_xor,BitVec.toNat_not,BitVec.toNat_ofNat,BitVec.toNat_allOnes,ez (by simpa using h)] at h1;simpa using h1
def zk(n:Int)(h0 : -9223372036854775808≤n)(h1:n≤9223372036854775807) :
  Tri Tryz.prog 307 #[ac n] [] (fun v L=>v=.int .u64 (zz n)∧L=[]):=by
 refine Tri.bd ?_;refine Ks ?_;intros;refine GO.ev (Ev.shl rfl rfl ae) ae ?_;refine Ks ?_;intros;refine GO.ev (Ev.shr rfl rfl ae) ae ?_;refine Ks ?_;intros;have e0:min ((1:Int).toNat) IntKind.u64.bits=1:=by decide
 have a0:min ((63:Int).toNat) IntKind.i64.bits=63:=by decide
 rw[e0,a0];by_cases hn:n<0
 ·have e1:IntKind.u64.wrap (IntKind.u64.wrap n*2 ^ 1)=(((18446744073709551616+2*n).toNat:Nat):Int):=by
   rw[IntKind.wrap_u64,IntKind.wrap_u64];omega
  have e2:IntKind.u64.wrap (n.fdiv (2 ^ 63))=((18446744073709551615:Nat):Int):=by
   rw[dG _ ae,IntKind.wrap_u64];omega
  rw[e1,e2];refine GO.ev (Ev.v7 rfl rfl ab ab ab ab) ae ?_;rw[aY,aY,Gr ab];refine Ks ?_;intros;refine KX.a8 aA (Ent.refl _) ⟨?_,rfl⟩;simp only[resV,zz,if_pos hn];congr 2;omega
 ·have e1:IntKind.u64.wrap (IntKind.u64.wrap n*2 ^ 1)=((2*n.toNat:Nat):Int):=by
   rw[IntKind.wrap_u64,IntKind.wrap_u64];omega
  have e2:IntKind.u64.wrap (n.fdiv (2 ^ 63))=((0:Nat):Int):=by
   rw[dG _ ae,IntKind.wrap_u64];omega
  rw[e1,e2];refine GO.ev (Ev.v7 rfl rfl ab ab ab ab) ae ?_;rw[aY,aY,Nat.xor_zero];refine Ks ?_;intros;refine KX.a8 aA (Ent.refl _) ⟨?_,rfl⟩;simp only[resV,zz,if_neg hn]
def lP{L:LH}(b:Nat)(xs:List Int)(n:Int)(h0 : -9223372036854775808≤n)(h1:n≤9223372036854775807)(hx:xs.length≤1000000) :
  Tri Tryz.prog 284 #[ax b,ac n] (WrR b xs::L) (fun _ L'=>L' = WrR b (xs++uv (zz n))::L):=by
 refine Tri.bd ?_;refine Ks ?_;intros;(first|refine GO.ef (Ef.call (zk n h0 h1) rfl dd) ae ?_);rintro _ _⟨_,⟨rfl,rfl⟩,hL⟩;simp only[al,ak] at hL;subst hL;refine GO.ef (Ef.k8 (sQ b xs (zz n) (kJ h0 h1) hx) rfl) ae ?_;rintro _ _ rfl;refine Ks ?_;intros;exact KX.c8 aA (Ent.refl _) rfl
def Ce{L:LH}(b:Nat)(xs:List Int)(hx:xs.length≤1000000000) :
  Tri Tryz.prog 287 #[ax b] (WrR b xs::L) (fun v L'=>∃ad cap,v=ag ad xs.length cap∧xs.length≤cap∧L' = osl (encZ .u8) 1 5 ad cap xs::WrR b xs::L):=by
 refine Tri.bd ?_;refine G.c8 (f:=fun x=>wrL b xs x []) ?_;intro x;simp only[al,ak];refine Ks ?_;intros;refine GO.ca (rL _ _ _ xs rfl hx) ?_;rintro _ _⟨a1,a0,rfl,rfl⟩;refine GO.g9 (kE (ad:=a1)) ?_;rintro⟨a2,_⟩;refine Ks ?_;intros;exact KX.a8 aA (Ent.a8 (oa x)) ⟨a1,a0,rfl,a2,rfl⟩
def Cf{L:LH}(b:Nat)(xs:List Int)(t:Bool)(hx:xs.length≤1000000) :
  Tri Tryz.prog 285 #[ax b,.bool t] (WrR b xs::L) (fun _ L'=>L' = WrR b (xs++[if t=true then 1 else 0])::L):=by
 refine Tri.bd ?_;refine G.c8 (f:=fun x=>wrL b xs x []) ?_;intro x;simp only[al,ak];cases t with
 | true =>
  refine Ks ?_;intros;refine GO.ef (Ef.a8 (e:=(1:Int)) rfl rfl rfl rfl rfl aQ (iu _ _) ab ab) ae ?_;rintro _ _⟨a1,a0,rfl,rfl⟩;refine Ks ?_;intros;refine KX.c8 aA ?_ rfl;refine Ent.trans ?_ (oa ⟨a1,0,a0⟩);simp only[wrL];exact ah
 | false =>
  refine Ks ?_;intros;refine GO.ef (Ef.a8 (e:=(0:Int)) rfl rfl rfl rfl rfl aQ (iu _ _) ab ab) ae ?_;rintro _ _⟨a1,a0,rfl,rfl⟩;refine Ks ?_;intros;refine KX.c8 aA ?_ rfl;refine Ent.trans ?_ (oa ⟨a1,0,a0⟩);simp only[wrL];exact ah
def ivs(l:List Int):List Int:=l.flatMap fun n=>uv (zz n)
def mK:∀{l:List Int},(∀x∈l,I64 x)→(ivs l).length≤10*l.length
 | [],_=>aq _
 | n::l,h=>by
  have h1:=mK (l:=l) (fun x hx=>h x (au _ hx));obtain⟨h2,h3⟩:=h n av;have h4:=ie (kJ h2 h3);show(uv (zz n)++ivs l).length≤10*(l.length+1);rw[aj];omega
def Hh(l:List Int)(n:Int):ivs (l++[n])=ivs l++uv (zz n):=by
 unfold ivs;rw[cl,aO,cW,aH]
def sR{L:LH}(b:Nat)(xs:List Int)(ad:OA)(n c:Nat)(ys:List Int)[hrd:Rds L ad Int (encZ .i64) 1 ys](hn:n=ys.length)(hy:∀y∈ys,I64 y)(hx:xs.length+10*ys.length+10≤1000000) :
  Tri Tryz.prog 286 #[ax b,ag ad n c] (WrR b xs::L) (fun _ L'=>L' = WrR b (xs++uv ys.length++ivs ys)::L):=by
 subst hn;have a6:=ie (n:=ys.length) ab;refine Tri.bd ?_;refine Ks ?_;intros;refine GO.ca (sQ b xs ys.length ab ab) ?_;rintro _ _ rfl;refine Ks ?_;intros;refine G.loop (α:=Nat) (fun i=>i≤ys.length) (fun i=>[(0,ax b),(11,ag ad ys.length c),(12,ac (ys.length:Int)),(13,ac (i:Int))]) (fun i=>WrR b (xs++uv ys.length++ivs (ys.take i))::L) (fun i=>ys.length - i) 0 (aw _) aC (by rw[aR];show Ent _ (WrR b (xs++uv ys.length++[])::L);rw[aH];exact Ent.refl _) ?_;intro i hi;by_cases a1:i<ys.length
 case neg =>
  rw[aD ab];refine Ks ?_;intros;exact KX.c8 aA (Ent.refl _) rfl
 have a2:(i:Int).toNat=i:=ab;have hm:=hy _ (aV a1);obtain⟨a4,a5⟩:=hm;have a3:=mK (l:=ys.take i) (fun x hx=>hy x (bF hx));rw[aK] at a3
 have a0:(xs++uv ys.length++ivs (ys.take i)).length≤1000000:=by
  rw[aj,aj];omega
 refine Ks ?_;intros;rw[a2];refine GO.ca (lP b (xs++uv ys.length++ivs (ys.take i)) ys[i]! a4 a5 a0) ?_;rintro _ _ rfl;refine Ks ?_;intros;refine⟨i+1,ab,ab,?_,?_⟩
 ·rw[bh i];exact aC
 ·rw[az a1,Hh,←getElem!_of a1,aB (xs++uv ys.length)];exact Ent.refl _
end
section
open Go.V
def IM{α:Type}{enc:α→LV}{sz:Nat}{ad:OA}{xs:List α}{cap:Nat}(hc:xs.length≤cap)(k:Nat){L:LH}:Ent (isl enc sz ad xs::L) (isl enc sz (advA ad cap sz k) (xs.drop k)::L):=by
 refine Ent.o0 fun θ R w s=>?_;obtain⟨ok,ι,h,a,b1,c,ι₀,h₁,h₂,d1,d2,d3,d4,⟨e1,e2⟩,d6⟩:=s;refine⟨ok,ι,h,a,b1,c,ι₀,h₁,h₂,d1,d2,d3,d4,⟨fun x hx=>e1 x (cG hx),?_⟩,d6⟩;rcases e2 with rfl|⟨g,off,a1,E,fz,rfl,f1,f2⟩
 ·exact .inl cc
 by_cases hk:xs.length≤k
 ·exact .inl (List.drop_eq_nil_of_le hk)
 ·right;have a2:¬cap=k:=ab;refine⟨g,off+k*sz,a1,E,fz,?_,f1,?_⟩
  ·simp only[advA,a2,if_false,eK,iR]
  ·intro i v hv
   have a0:∀(l:List α) (k:Nat),(∀x∈l,(enc x).length=sz)→(l.drop k).flatMap enc=(l.flatMap enc).drop (k*sz):=by
    intro l;induction l with
    | nil=>intro k _;simp
    | cons y l ih =>
     intro k hl;cases k with
     | zero=>simp
     | succ k =>
      have hy:=hl y cc;simp only[List.drop_succ_cons,aO];have h1:(enc y).drop ((k+1)*sz)=[]:=bQ (by rw[hy,fW];omega);rw[ih k (fun x hx=>hl x (au _ hx)),List.drop_append,h1,hy,fW,Nat.add_sub_cancel,ak]
   rw[a0 xs k e1,List.getElem?_drop] at hv;have:=f2 _ _ hv
   rw[dS];exact this
abbrev rdL(b:Nat)(rest:List Int)(err:Int)(x:SlV)(L:LH):LH:=cY (rest.length≤x.cap)::obj b 363 [ag x.ad rest.length x.cap,ac err]::isl (encZ .u8) 1 x.ad rest::L
def RdR(b:Nat)(rest:List Int)(a0:Int):HP:=hex fun x:SlV=>cm (rdL b rest a0 x [])
def gD{b:Nat}{rest:List Int}{a0:Int}{L:LH}(x:SlV)(h:rest.length≤x.cap):Ent (obj b 363 [ag x.ad rest.length x.cap,ac a0]::isl (encZ .u8) 1 x.ad rest::L) (RdR b rest a0::L):=Ent.g8 (f:=fun x=>rdL b rest a0 x []) x (Ent.pure h (Ent.refl _))
attribute [local irreducible] G GO GP GPW GPK GF GE Ev Ef EfR Ent CB GB V.Enters
def EJ{L:LH}(ad:OA)(n c:Nat)(xs:List Int)[hrd:Rds L ad Int (encZ .u8) 1 xs](hn:n=xs.length)(hm:n≤1000000000) :
  Tri Tryz.prog 197 #[ag ad n c] L (fun v L'=>∃b,v=ax b∧L' = RdR b xs 0::L):=by
 refine Tri.bd ?_;refine Ks ?_;intros;refine GO.ca (rL _ _ _ xs hn hm) ?_;rintro _ _⟨a1,a0,rfl,rfl⟩;refine GO.g9 (kE (ad:=a1)) ?_;rintro⟨a2,_⟩;refine Ks ?_;intros;rename_i b;refine KX.a8 aA ?_ ⟨b,rfl,rfl⟩;refine Ent.trans ?_ (gD ⟨a1,0,a0⟩ a2);exact Ent.a8 Ent.freezeSl
def oct(rest:List Int)(a0:Int):Int×List Int×Int:=if a0≠0 then(0,rest,a0) else match rest with
 | []=>(0,[],3)
 | b::t=>(b,t,0)
def tz{L:LH}(b:Nat)(rest:List Int)(a1:Int) :
  Tri Tryz.prog 282 #[ax b] (RdR b rest a1::L) (rtQ (.int .u8 (oct rest a1).1) (RdR b (oct rest a1).2.1 (oct rest a1).2.2::L)):=by
 refine Tri.bd ?_;refine G.c8 (f:=fun x=>rdL b rest a1 x []) ?_;intro x;simp only[al,ak];refine G.d7 ?_;intro a0;by_cases he:a1=0
 case neg =>
  refine Ks ?_;intros;refine KX.a8 aA (gD x a0) ⟨?_,?_⟩
  ·simp[oct,he,resV]
  ·simp[oct,he]
 subst he;cases rest with
 | nil =>
  refine Ks ?_;intros;exact KX.a8 aA (gD x a0) ⟨by simp[oct,resV],by simp[oct]⟩
 | cons y t =>
  have a3:(y::t).length=t.length+1:=rfl;have a2:((y::t).length:Int)=t.length+1:=by simp
  refine Ks ?_;intros;refine KX.a8 aA ?_ ⟨by simp[oct,resV],rfl⟩;rw[show oct (y::t) 0=(y,t,0) by simp[oct]];refine Ent.trans ?_ (gD ⟨advA x.ad x.cap 1 1,0,x.cap - 1⟩ (by simp only[];simp only[aM] at a0;omega));exact Ent.a8 (IM (xs:=y::t) a0 1)
def ID{rest:List Int}{a0:Int}(h:a0≠0):oct rest a0=(0,rest,a0):=by simp[oct,h]
def iP(rest:List Int)(a0:Int):Nat×List Int×Int:=if a0≠0 then(0,rest,a0) else((rdU rest 0 0).1,(rdU rest 0 0).2.2,(rdU rest 0 0).2.1)
def tn{L:LH}(b:Nat)(rest:List Int)(a2:Int)(hb:iF rest) :
  Tri Tryz.prog 281 #[ax b] (RdR b rest a2::L) (rtQ (.int .u64 (iP rest a2).1) (RdR b (iP rest a2).2.1 (iP rest a2).2.2::L)):=by
 refine Tri.bd ?_;refine Ks ?_;intros;refine G.loop (α:=Nat×Nat×List Int) (fun g=>g.1≤9∧g.2.1<128 ^ g.1∧iF g.2.2∧(a2=0→rdU g.2.2 g.1 g.2.1=rdU rest 0 0)∧(a2≠0→g.2.2=rest)) (fun g=>[(0,ax b),(3,.int .u64 (g.2.1:Int)),(4,ac (g.1:Int))]) (fun g=>RdR b g.2.2 a2::L) (fun g=>9 - g.1) (0,0,rest) ⟨by simp,by simp,hb,fun _=>rfl,fun _=>rfl⟩ aC (Ent.refl _) ?_;rintro⟨i,acc,l⟩ ⟨hi,ha,hl,hr,a3⟩;simp only[] at hi ha hl hr a3 ⊢;refine Ks ?_;intros;refine GO.ef (Ef.k8 (tz b l a2) rfl) ae ?_;rintro _ _⟨rfl,rfl⟩;by_cases he:a2=0
 case neg =>
  rw[ID he,a3 he];refine Ks ?_;intros;refine GO.c8 (f:=fun x=>rdL b rest a2 x []) ?_;intro x;simp only[al,ak];refine GO.d7 ?_;intro a0;refine Ks ?_;intros;exact KX.a8 aA (gD x a0) ⟨by simp[iP,he,resV],by simp[iP,he]⟩
 subst he;have hrd:=hr rfl;clear hr a3;cases l with
 | nil =>
  rw[show oct [] 0=(0,[],3) by simp[oct]];refine Ks ?_;intros;refine GO.c8 (f:=fun x=>rdL b [] 3 x []) ?_;intro x;simp only[al,ak];refine GO.d7 ?_;intro a0;refine Ks ?_;intros
  have e:iP rest 0=(0,[],3):=by
   simp only[iP,←hrd];simp[rdU]
  exact KX.a8 aA (gD x a0) ⟨by rw[e];rfl,by rw[e]⟩
 | cons y t =>
  rw[show oct (y::t) 0=(y,t,0) by simp[oct]];have hy:=hl y cc;have ht:iF t:=fun x hx=>hl x (au _ hx);refine Ks ?_;intros;refine GO.c8 (f:=fun x=>rdL b t 0 x []) ?_;intro x;simp only[al,ak];refine GO.d7 ?_;intro a0;by_cases a1:(i=9∧1<y)∨(0<i∧y=0)
  ·have e:iP rest 0=(0,t,2):=by
    simp only[iP,←hrd,rdU];simp[a1]
   rcases a1 with⟨h9,h1⟩|⟨h9,h1⟩
   ·refine Ks ?_;intros;exact KX.a8 aA (gD x a0) ⟨by rw[e];rfl,by rw[e]⟩
   ·by_cases a9:i=9
    ·refine Ks ?_;intros;exact KX.a8 aA (gD x a0) ⟨by rw[e];rfl,by rw[e]⟩
    ·refine Ks ?_;intros;exact KX.a8 aA (gD x a0) ⟨by rw[e];rfl,by rw[e]⟩
  have hp:=nt hi;obtain⟨yN,a7⟩:∃yN:Nat,y=(yN:Int):=⟨y.toNat,ab⟩;subst a7;have hm:=dU yN (show 0<128 by decide)
  have a5:yN % 128*128 ^ i<18446744073709551616:=by
   by_cases h9:i=9
   ·subst h9;have h2:yN≤1:=ab;have h3:yN % 128*128 ^ 9≤1*128 ^ 9:=bj _ ab;omega
   ·have h3:yN % 128*128 ^ i≤127*128 ^ i:=bj _ ab;have b1:(128:Nat) ^ (i+1)≤9223372036854775808:=nt ab;have a6:(128:Nat) ^ (i+1)=128 ^ i*128:=Nat.pow_succ ..;omega
  repeat first|refine G.sm 7 ?_|refine dq ?_|intro
  refine G.c7 (α:=Unit) (fun _=>True) (fun _=>[(0,ax b),(3,.int .u64 (acc:Int)),(4,ac (i:Int)),(5,.int .u8 (yN:Int))]) (fun _=>RdR b t 0::L) ?_ ?_
  ·by_cases h9:i=9
   ·refine Ks ?_;intros;exact⟨(),trivial,aC,gD x a0⟩
   ·by_cases h0:i=0
    ·refine Ks ?_;intros;exact⟨(),trivial,aC,gD x a0⟩
    ·refine Ks ?_;intros;exact⟨(),trivial,aC,gD x a0⟩
  rintro _ _;refine Ks ?_;intros;refine GO.ev (Ev.A3 rfl rfl ab ab ae ae) ae ?_;rw[aY,show(127:Int).toNat=127 from rfl,JR yN ab];refine Ks ?_;intros;refine GO.ev (Ev.shl rfl rfl ab) ae ?_
  have e1:IntKind.u64.wrap (((yN % 128:Nat):Int)*2 ^ min (7*(i:Int)).toNat IntKind.u64.bits)=((yN % 128*2 ^ (7*i) % 18446744073709551616:Nat):Int):=by
   rw[IntKind.wrap_u64,show min (7*(i:Int)).toNat IntKind.u64.bits=7*i by simp[IntKind.bits];omega];simp
  have b0:=dU (yN % 128*2 ^ (7*i)) (show 0<18446744073709551616 by decide);rw[e1];refine GO.ev (Ev.x7 rfl rfl ab ab ab ab) ae ?_;rw[aY,aY,GS ha a5];by_cases a4:yN<128
  ·refine Ks ?_;intros
   have e:iP rest 0=(acc+yN % 128*128 ^ i,t,0):=by
    rw[iP,if_neg cc,←hrd];simp only[rdU];rw[if_neg a1,if_pos ab,aY]
   exact KX.a8 aA (Ent.refl _) ⟨by rw[e];rfl,by rw[e]⟩
  ·refine Ks ?_;intros
   have h9:i≠9:=by
    intro h9;exact a1 (.inl ⟨h9,ab⟩)
   have a6:(128:Nat) ^ (i+1)=128 ^ i*128:=Nat.pow_succ ..;have h3:yN % 128*128 ^ i≤127*128 ^ i:=bj _ ab;refine⟨(i+1,acc+yN % 128*128 ^ i,t),⟨by simp only[];omega,by simp only[];omega,ht,fun _=>?_,fun h=>absurd rfl h⟩,by simp only[];omega,?_,Ent.refl _⟩
   ·simp only[];rw[←hrd];simp only[rdU];rw[if_neg a1,if_neg ab,aY]
   ·simp only[];rw[show(((i+1:Nat)):Int)=(i:Int)+1 by omega];exact aC
def GI{rest:List Int}(a0:Int)(h:iF rest):(iP rest a0).1<18446744073709551616:=by
 unfold iP;split
 ·simp
 ·exact EK rest 0 0 h ab ae
def AI(a:Nat)(ha:a<9223372036854775808):bits .xor .i64 (a:Int) (-1) = -1 - (a:Int):=by
 have h:bits .xor .i64 (a:Int) (-1)=bits .xor .i64 (-1) (a:Int):=by
  show IntKind.i64.wrap ((BitVec.ofInt 64 (a:Int) ^^^ BitVec.ofInt 64 (-1)).toNat:Int)=IntKind.i64.wrap ((BitVec.ofInt 64 (-1) ^^^ BitVec.ofInt 64 (a:Int)).toNat:Int);rw[BitVec.xor_comm]
 rw[h];exact i64_not a ha
def yh(a:Nat)(ha:a<9223372036854775808):bits .xor .i64 (a:Int) 0=(a:Int):=by
 show IntKind.i64.wrap ((BitVec.ofInt 64 (a:Int) ^^^ BitVec.ofInt 64 0).toNat:Int)=_;rw[show BitVec.ofInt 64 0=0#64 from rfl,BitVec.xor_zero,BitVec.ofInt_natCast,BitVec.toNat_ofNat,ez ab,IntKind.wrap_i64];omega
def vK(u:Nat)(hu:u<18446744073709551616) :
  Tri Tryz.prog 280 #[.int .u64 u] [] (fun v L=>v=ac (unzz u)∧L=[]):=by
 refine Tri.bd (args:=[.int .u64 (u:Int)]) ?_;refine Ks ?_;intros;refine GO.ev (Ev.shr rfl rfl ae) ae ?_
 have e2:((u:Nat):Int).fdiv (2 ^ min ((1:Int).toNat) IntKind.u64.bits)=((u / 2:Nat):Int):=by
  rw[dG _ ae];simp[IntKind.bits]
 rw[e2];refine Ks ?_;intros;refine GO.ev (Ev.w8 rfl rfl ab ab ae ae) ae ?_;rw[aY,show(1:Int).toNat=1 from rfl,Nat.and_one_is_mod];refine Ks ?_;intros;by_cases h:u % 2=1
 ·rw[h];refine GO.ev (Ev.bits cc rfl rfl) ae ?_;rw[show(-((1:Nat):Int)) = -1 from rfl,AI (u / 2) ab];refine Ks ?_;intros;exact KX.a8 aA (Ent.refl _) ⟨by simp only[resV,unzz,if_pos h];congr 1;omega,rfl⟩
 ·rw[show u % 2=0 by omega];refine GO.ev (Ev.bits cc rfl rfl) ae ?_;rw[show(-((0:Nat):Int))=0 from rfl,yh (u / 2) ab];refine Ks ?_;intros;exact KX.a8 aA (Ent.refl _) ⟨by simp only[resV,unzz,if_neg h],rfl⟩
def EL{L:LH}(b:Nat)(rest:List Int)(a0:Int)(hb:iF rest) :
  Tri Tryz.prog 198 #[ax b] (RdR b rest a0::L) (rtQ (ac (unzz (iP rest a0).1)) (RdR b (iP rest a0).2.1 (iP rest a0).2.2::L)):=by
 refine Tri.bd ?_;refine Ks ?_;intros;refine GO.ef (Ef.k8 (tn b rest a0 hb) rfl) ae ?_;rintro _ _⟨rfl,rfl⟩;(first|refine GO.ef (Ef.call (vK _ (GI a0 hb)) rfl dd) ae ?_);rintro _ _⟨_,⟨rfl,rfl⟩,hL⟩;simp only[al,ak] at hL;subst hL;refine Ks ?_;intros;exact KX.en ⟨rfl,rfl⟩
def EM{L:LH}(b:Nat)(rest:List Int)(a1:Int) :
  Tri Tryz.prog 201 #[ax b] (RdR b rest a1::L) (rtQ (ac (if a1≠0 then a1 else if rest=[] then 0 else 2)) (RdR b rest a1::L)):=by
 refine Tri.bd ?_;refine G.c8 (f:=fun x=>rdL b rest a1 x []) ?_;intro x;simp only[al,ak];refine G.d7 ?_;intro a0;by_cases he:a1=0
 case neg =>
  refine Ks ?_;intros;exact KX.a8 aA (gD x a0) ⟨by simp[he,resV],rfl⟩
 cases rest with
 | nil =>
  refine Ks ?_;intros;exact KX.a8 aA (gD x a0) ⟨by simp[he,resV],rfl⟩
 | cons y t =>
  have a2:(y::t).length=t.length+1:=rfl;refine Ks ?_;intros;exact KX.a8 aA (gD x a0) ⟨by simp[he,resV],rfl⟩
def xd{n:Nat}(h:n<18446744073709551616)(t:List Int):iP (uv n++t) 0=(n,t,0):=by
 unfold iP;rw[if_neg cc,Iu h]
def kM{L:LH}(b:Nat)(n:Int)(t:List Int)(h0:I64 n)(hb:iF t) :
  Tri Tryz.prog 198 #[ax b] (RdR b (uv (zz n)++t) 0::L) (rtQ (ac n) (RdR b t 0::L)):=by
 have h:=EL (L:=L) b (uv (zz n)++t) 0 (fun x hx=>(List.mem_append.1 hx).elim (lq _ x) (hb x));rw[xd (kJ h0.1 h0.2)] at h;rw[Ie] at h;exact h
def zy{L:LH}(b:Nat)(q:Bool)(t:List Int) :
  Tri Tryz.prog 199 #[ax b] (RdR b ((if q=true then 1 else 0)::t) 0::L) (rtQ (.bool q) (RdR b t 0::L)):=by
 refine Tri.bd ?_;refine Ks ?_;intros;refine GO.cr (tz b ((if q=true then 1 else 0)::t) 0) ?_;rw[show oct ((if q=true then 1 else 0)::t) 0=((if q=true then 1 else 0),t,0) by simp[oct]];cases q with
 | true =>
  refine Ks ?_;intros;exact KX.a8 aA (Ent.refl _) ⟨by rw[bE cc];rfl,rfl⟩
 | false =>
  refine Ks ?_;intros;exact KX.a8 aA (Ent.refl _) ⟨by rw[aW cc];rfl,rfl⟩
end
section
open Go.V
attribute [local irreducible] G GO GP GPW GPK Ev Ef EfR Ent CB GB Enters
def LotW(l:Lot):Prop:=0≤l.1∧0≤l.2.1∧0≤l.2.2∧l.2.1+l.2.2≤1099511627776
def LotOk.w{l:Lot}(h:LotOk l):LotW l:=by unfold LotOk at h;unfold LotW;omega
def lI(x b:Lot):Prop:=[x.1,x.2.1,0]=[b.1,b.2.1+b.2.2,0]
instance (x b:Lot):Decidable (lI x b):=by unfold lI;infer_instance
def lcont_iff{x b:Lot}:lI x b↔x.1=b.1∧x.2.1=b.2.1+b.2.2:=by simp[lI]
def bN(l:LL)(x:Lot):LL :=
 if x.2.2=0 then l else if l.length≠0∧lI x l[l.length - 1]! then l.set (l.length - 1) (l[l.length - 1]!.1,l[l.length - 1]!.2.1,l[l.length - 1]!.2.2+x.2.2) else l++[x]
def qf(l:LL)(x:Lot):(bN l x).length≤l.length+1:=by
 unfold bN;split
 ·omega
 ·split<;>simp
def Bz{l:LL}{x:Lot}(h:∀y∈l,LotW y)(hx:LotW x):∀y∈bN l x,LotW y:=by
 unfold bN;split
 ·exact h
 ·split
  ·rename_i hc;obtain⟨a1,a0⟩:=hc;rw[lcont_iff] at a0;intro y hy;rcases dj hy with hy|rfl
   ·exact h y hy
   ·have:=h _ (aV (ab:l.length - 1<l.length))
    unfold LotW at this hx ⊢;dsimp only;omega
  ·intro y hy;rcases List.mem_append.1 hy with hy|hy
   ·exact h y hy
   ·rw[List.mem_singleton] at hy;subst hy;exact hx
def ko{xs:LL}:∀{l:LL},(∀y∈l,LotW y)→(∀y∈xs,LotW y)→∀y∈xs.foldl bN l,LotW y:=by
 induction xs with
 | nil=>intro l h _;exact h
 | cons x xs ih =>
  intro l h hx;exact ih (Bz h (hx x (av ..))) (fun y hy=>hx y (au _ hy))
def iV(xs:LL):∀l:LL,(xs.foldl bN l).length≤l.length+xs.length:=by
 induction xs with
 | nil=>intro l;simp
 | cons x xs ih =>
  intro l;have h1:=ih (bN l x);have h2:=qf l x;simp only[eO,aM];omega
def DJ{L:LH}(x b:Lot)(hb:LotW b):Tri Tryz.prog 305 #[aU (aG x),aU (aG b)] L (rtQ (.bool (dB (lI x b))) L):=by
 unfold LotW at hb;refine Tri.bd ?_;refine Ks ?_;intros;exact KX.en ⟨rfl,rfl⟩
abbrev CI:=XC [.ev 8,.ef 9,.ev 10]
abbrev CH:=XD [.ev 10,.ef 11]
def Kt{φ ψ:Prop}(k:ψ)(h:Hid ψ→φ:=by intro k;(repeat (first|refine aa ?_|intro zzz|refine G.dr 39 4 CI ?_|refine G.dr 39 5 CH ?_));(repeat revert zzz);exact Hid.out k):φ:=h ⟨k⟩
def qs{L:LH}(ad:OA)(cap:Nat)(xs:LL)(x:Lot)(hl:xs.length≤100000000)(a6:∀y∈xs,LotW y)(hx:LotW x) :
  Tri Tryz.prog 278 #[ag ad xs.length cap,aU (aG x)] (osl aG 3 tLot ad cap xs::L) (fun v L'=>∃a5 a1,v=ag a5 (bN xs x).length a1∧L' = osl aG 3 tLot a5 a1 (bN xs x)::L):=by
 refine Tri.bd ?_;by_cases h0:x.2.2=0
 ·have e:bN xs x=xs:=by unfold bN;rw[if_pos h0]
  rw[e];refine Kt ?_;intros;exact KX.en ⟨ad,cap,rfl,rfl⟩
 by_cases h1:xs.length=0
 ·have e:bN xs x=xs++[x]:=by unfold bN;rw[if_neg h0,if_neg (fun h=>h.1 h1)]
  rw[e];refine Kt ?_;intros;refine GO.ef (Ef.a8 (enc:=aG) (e:=x) rfl rfl rfl rfl rfl aQ (eV _) ab ab) ae ?_;rintro _ _⟨a2,a0,rfl,rfl⟩;refine Kt ?_;intros;exact KX.en ⟨a2,a0,rfl,rfl⟩
 have a3:((xs.length:Int) - 1).toNat=xs.length - 1:=ab;have a4:=a6 _ (aV (ab:xs.length - 1<xs.length));rw[←a3] at a4;refine Kt ?_;intros;refine GPW.cr (DJ x xs[((xs.length:Int) - 1).toNat]! a4) ?_;by_cases hc:lI x xs[((xs.length:Int) - 1).toNat]!
 ·have a7:=lcont_iff.1 hc;rw[bE hc];unfold LotW at a4 hx;refine Kt ?_;intros;refine GPW.efu (Ef.f7 (e:=((xs[((xs.length:Int) - 1).toNat]!.1,xs[((xs.length:Int) - 1).toNat]!.2.1,xs[((xs.length:Int) - 1).toNat]!.2.2+x.2.2):Lot)) rfl rfl aQ rfl ab ae) ?_;rintro _ _ rfl
  have e:bN xs x=xs.set ((xs.length:Int) - 1).toNat (xs[((xs.length:Int) - 1).toNat]!.1,xs[((xs.length:Int) - 1).toNat]!.2.1,xs[((xs.length:Int) - 1).toNat]!.2.2+x.2.2):=by
   unfold bN;rw[a3] at hc ⊢;rw[if_neg h0,if_pos ⟨h1,hc⟩]
  rw[e];refine Kt ?_;intros;exact KX.a8 aA ah ⟨ad,cap,by rw[bH];rfl,rfl⟩
 ·rw[aW hc]
  have e:bN xs x=xs++[x]:=by
   unfold bN;rw[a3] at hc;rw[if_neg h0,if_neg (fun h=>hc h.2)]
  rw[e];refine Kt ?_;intros;refine GO.ef (Ef.a8 (enc:=aG) (e:=x) rfl rfl rfl rfl rfl aQ (eV _) ab ab) ae ?_;rintro _ _⟨a2,a0,rfl,rfl⟩;refine Kt ?_;intros;exact KX.en ⟨a2,a0,rfl,rfl⟩
def pc1(x:Lot)(c:Int):Lot:=(x.1,x.2.1,c)
def pc2(x:Lot)(c:Int):Lot:=(x.1,x.2.1+c,x.2.2 - c)
def pcF(l:LL)(cs:Nat→Int)(k:Nat):Lot:=pc1 l[k]! (cs k)
def pcR(l:LL)(cs:Nat→Int)(k:Nat):Lot:=pc2 l[k]! (cs k)
def pcV(l:LL)(cs:Nat→Int)(k:Nat):LV:=if k % 2=0 then[aU (aG (pcF l cs (k / 2))),.bool true] else[aU (aG (pcR l cs (k / 2))),.bool false]
def pcVs(l:LL)(cs:Nat→Int):List (LV):=(List.range (2*l.length)).map (pcV l cs)
def oO(l:LL)(cs:Nat→Int):(pcVs l cs).length=2*l.length:=by simp[pcVs]
def xG{l:LL}{cs:Nat→Int}{k:Nat}(h:k<(pcVs l cs).length):(pcVs l cs)[k]=pcV l cs k:=by simp[pcVs]
def ud(g:FuncId)(cap:LV)(n:Nat)(cs:Nat→Int)(C:Nat→HP):Prop:=∀k,k<n→∀L:LH,Tri Tryz.prog g (([]++[Value.int .i64 (k:Int)]++cap:LV)).toArray (C k::L) (rtQ (ac (cs k)) (C (k+1)::L))
abbrev gz:Nat:=35
abbrev tCnt:Nat:=48
def AB(bx bf g:Nat)(cap:LV)(ad:OA)(c:Nat)(l:LL)(cs:Nat→Int)(C:Nat→HP)(hm:l.length≤1000000)(hw:∀x∈l,LotW x)(hc:∀k,k<l.length→0≤cs k∧cs k≤l[k]!.2.2)(hC:ud g cap l.length cs C) :
  Ej Tryz.prog 332 [ax bx,ax bf] (pcVs l cs) [obj bx gz [ag ad l.length c],obj bf tCnt [.func (.func g) #[] cap.toArray],C 0,isl aG 3 ad l] []:=by
 intro i J Jx hy;rw[oO]
 have a1 : ∀k (hk:k<2*l.length),YTri Tryz.prog i (pcV l cs k) [J k] (fun v L'=>(v=.bool true∧L' = [J (k+1)])∨(v=.bool false∧L' = [Jx k])):=by
  intro k hk;have h:=hy k (by rw[oO];exact hk);rw[xG] at h;exact h
 clear hy;refine Tri.bd (args:=[.func (.yield i) #[] #[],ax bx,ax bf]) ?_;refine Ks ?_;intros;refine G.loop (α:=Nat) (fun k=>k≤l.length) (fun k=>[(0,.func (.yield i) #[] #[]),(1,ax bx),(2,ax bf),(7,ag ad l.length c),(8,ac l.length),(9,ac (k:Int))]) (fun k=>[J (2*k),obj bx gz [ag ad l.length c],obj bf tCnt [.func (.func g) #[] cap.toArray],C k,isl aG 3 ad l]) (fun k=>l.length - k) 0 (aw _) aC (Ent.refl _) ?_;intro k hk;by_cases a0:k<l.length
 case neg =>
  have a5:k=l.length:=ab;refine Ks ?_;intros;refine KX.c8 aA (Ent.a8 (Ent.nil _)) (.inl ?_);rw[a5]
 have a4:(k:Int).toNat=k:=ab;have a6:=hw _ (aV a0);have a7:=hc k a0;have a2:=a1 (2*k) ab;have a3:=a1 (2*k+1) ab;rw[show pcV l cs (2*k)=[aU (aG (pcF l cs k)),.bool true] by unfold pcV;rw[if_pos ab,show 2*k / 2=k by omega]] at a2;rw[show pcV l cs (2*k+1)=[aU (aG (pcR l cs k)),.bool false] by unfold pcV;rw[if_neg ab,show(2*k+1) / 2=k by omega]] at a3;unfold LotW at a6;refine Ks ?_;intros;rw[a4];refine GO.ent (Ent.at (A:=C k) (Ent.refl _)) ?_;refine GO.ef (Ef.c7 rfl rfl (hC k a0 _)) ae ?_;rintro _ _⟨rfl,rfl⟩;refine Ks ?_;intros;refine GO.ent (Ent.at (A:=J (2*k)) (Ent.refl _)) ?_;((with_reducible apply GO.a8);refine GO.efR (EfR.yield (a2) rfl rfl dd) ae ?_);rintro _ _⟨_,(⟨rfl,rfl⟩|⟨rfl,rfl⟩),hL⟩
 ·simp only[al,ak] at hL;subst hL;refine Ks ?_;intros;((with_reducible apply GO.a8);refine GO.efR (EfR.yield (a3) rfl rfl dd) ae ?_);rintro _ _⟨_,(⟨rfl,rfl⟩|⟨rfl,rfl⟩),hL⟩
  ·simp only[al,ak] at hL;subst hL;refine Ks ?_;intros;refine⟨k+1,ab,ab,?_,?_⟩
   ·rw[show(((k+1:Nat)):Int)=(k:Int)+1 by omega];exact aC
   ·rw[show 2*(k+1)=2*k+1+1 by omega];exact ah
  ·simp only[al,ak] at hL;subst hL;refine Ks ?_;intros;exact KX.a8 aA (Ent.a8 (Ent.nil _)) (.inr ⟨2*k+1,rfl⟩)
 ·simp only[al,ak] at hL;subst hL;refine Ks ?_;intros;exact KX.a8 aA (Ent.a8 (Ent.nil _)) (.inr ⟨2*k,rfl⟩)
def stkA(b:Nat)(xs:LL)(x:OA×Nat):LH:=[obj b gz [ag x.1 xs.length x.2],osl aG 3 tLot x.1 x.2 xs]
def stkO(b:Nat)(xs:LL):HP:=hex fun x=>cm (stkA b xs x)
def divF(l:LL)(cs:Nat→Int)(m:Nat):LL:=((List.range m).map (pcF l cs)).foldl bN []
def divR(l:LL)(cs:Nat→Int)(m:Nat):LL:=((List.range m).map (pcR l cs)).foldl bN []
def FR(l:LL)(cs:Nat→Int)(m:Nat):divF l cs (m+1)=bN (divF l cs m) (pcF l cs m):=by simp[divF,fP]
def FQ(l:LL)(cs:Nat→Int)(m:Nat):divR l cs (m+1)=bN (divR l cs m) (pcR l cs m):=by simp[divR,fP]
def oq(l:LL)(cs:Nat→Int)(m:Nat):(divF l cs m).length≤m∧(divR l cs m).length≤m:=by
 have h1:=iV ((List.range m).map (pcF l cs)) [];have h2:=iV ((List.range m).map (pcR l cs)) [];simp at h1 h2;exact⟨h1,h2⟩
def pc_w{l:LL}{cs:Nat→Int}{k:Nat}(hk:k<l.length)(hw:∀x∈l,LotW x)(hc:0≤cs k∧cs k≤l[k]!.2.2):LotW (pcF l cs k)∧LotW (pcR l cs k):=by
 have:=hw _ (aV hk)
 unfold LotW at *;simp only[pcF,pcR,pc1,pc2];omega
def Km{l:LL}{cs:Nat→Int}(hw:∀x∈l,LotW x)(hc:∀k,k<l.length→0≤cs k∧cs k≤l[k]!.2.2)(m:Nat)(hm:m≤l.length):(∀x∈divF l cs m,LotW x)∧∀x∈divR l cs m,LotW x:=by
 constructor
 ·refine ko cc ?_;intro x hx;obtain⟨k,hk,rfl⟩:=List.mem_map.1 hx;have a0:=List.mem_range.1 hk;exact(pc_w ab hw (hc k ab)).1
 ·refine ko cc ?_;intro x hx;obtain⟨k,hk,rfl⟩:=List.mem_map.1 hx;have a0:=List.mem_range.1 hk;exact(pc_w ab hw (hc k ab)).2
abbrev CG:List Stp:=[.ev 0,.ev 1,.ef 2,.ef 3]
def gk{φ ψ:Prop}(k:ψ)(h:Hid ψ→φ:=by intro k;first|refine GO.ci (f:=324) (Hid.out k)|refine GPW.ci (f:=324) (Hid.out k)|refine GO.cf (f:=324) rfl (Hid.out k)|refine GPW.cf (f:=324) rfl (Hid.out k)|refine KX.inA (Hid.out k)):φ:=h ⟨k⟩
def gj{φ ψ:Prop}(k:ψ)(h:Hid ψ→φ:=by intro k;(with_reducible apply G.a8);first|refine G.dr 22 7 CG (Hid.out k)):φ:=h ⟨k⟩
def Xt{φ ψ:Prop}(k:ψ)(h:Hid ψ→φ:=by intro k;(repeat (first|refine aa ?_|intro zzz|refine gj ?_|refine gk ?_));(repeat revert zzz);exact Hid.out k):φ:=h ⟨k⟩
def nY(g:Nat)(cap:LV)(ad:OA)(c:Nat)(l:LL)(cs:Nat→Int)(C:Nat→HP)(hm:l.length≤1000000)(hw:∀x∈l,LotW x)(hc:∀k,k<l.length→0≤cs k∧cs k≤l[k]!.2.2)(hC:ud g cap l.length cs C) :
  Tri Tryz.prog 314 #[ag ad l.length c,.func (.func g) #[] cap.toArray] [C 0,isl aG 3 ad l] (fun v L'=>∃a0 c1 a1 c2,v=.tuple #[ag a0 (divF l cs l.length).length c1,ag a1 (divR l cs l.length).length c2]∧L' = [osl aG 3 tLot a0 c1 (divF l cs l.length),osl aG 3 tLot a1 c2 (divR l cs l.length)]):=by
 refine Tri.bd ?_;refine Xt ?_;intros;rename_i b4 b5 bx bf;refine G.d8 (AB bx bf g cap ad c l cs C hm hw hc hC) rfl en332.1 ae ?_ (fun k=>[stkO b4 (divF l cs ((k+1) / 2)),stkO b5 (divR l cs (k / 2))]) ?_ ?_ ?_
 ·intro vs b1;obtain⟨k,_,rfl⟩:=List.mem_map.1 b1;unfold pcV;split<;>rfl
 ·simp only[al,ak];rw[show divF l cs ((0+1) / 2)=[] from rfl,show divR l cs (0 / 2)=[] from rfl];refine Ent.trans ?_ (Ent.g8 (none,0) (f:=stkA b4 []) (Ent.refl _));refine Ent.trans ?_ (Ent.append (Ent.refl (stkA b4 [] (none,0))) (Ent.g8 (none,0) (f:=stkA b5 []) (Ent.refl _)));simp only[stkA,bz,al,ak];refine Ent.trans (Ent.c8 aG 3 tLot) (Ent.trans (Ent.c8 aG 3 tLot) ?_);exact ah
 ·intro k hk;have b2:k<2*l.length:=by rw[oO] at hk;exact hk
  rw[xG];obtain⟨m,a5⟩:∃m,m=k / 2:=⟨_,rfl⟩;have a6:m<l.length:=ab;obtain⟨a7,a9⟩:=pc_w a6 hw (hc m a6);have a3:=oq l cs m;have b0:=oq l cs (m+1);have a2:=Km hw hc m ab;unfold pcV;by_cases a4:k % 2=0
  ·rw[if_pos a4,←a5,show(k+1) / 2=m by omega,show(k+1+1) / 2=m+1 by omega,FR];generalize divF l cs m=T at a3 a2;generalize divR l cs m=R;generalize pcF l cs m=x at a7;show G _ _ _ ((12,.bool true)::(11,aU (aG x))::_) _ _;refine G.c8 (f:=stkA b4 T) ?_;rintro⟨a0,c1⟩;simp only[stkA,al,ak];refine Xt ?_;intros;refine GO.ent (Ent.at (A:=osl aG 3 tLot a0 c1 T) (Ent.refl _)) ?_;refine GO.ca (qs a0 c1 T x ab a2.1 a7) ?_;rintro _ _⟨a1,c2,rfl,rfl⟩;refine Xt ?_;intros;refine KX.round ?_;refine Ent.trans ?_ (Ent.g8 (a1,c2) (f:=stkA b4 (bN T x)) (Ent.refl _));simp only[stkA,al,ak];exact ah
  ·rw[if_neg a4,←a5,show(k+1) / 2=m+1 by omega,show(k+1+1) / 2=m+1 by omega,FQ];generalize divF l cs (m+1)=T;generalize divR l cs m=R at a3 a2;generalize pcR l cs m=x at a9;show G _ _ _ ((12,.bool false)::(11,aU (aG x))::_) _ _;refine G.ent Ent.swap ?_;refine G.c8 (f:=stkA b5 R) ?_;rintro⟨a0,c1⟩;simp only[stkA,al,ak];refine Xt ?_;intros;refine GO.ent (Ent.at (A:=osl aG 3 tLot a0 c1 R) (Ent.refl _)) ?_;refine GO.ca (qs a0 c1 R x ab a2.2 a9) ?_;rintro _ _⟨a1,c2,rfl,rfl⟩;refine Xt ?_;intros;refine KX.round ?_;refine Ent.trans ?_ (Ent.swap (A:=stkO b5 (bN R x)));refine Ent.trans ?_ (Ent.g8 (a1,c2) (f:=stkA b5 (bN R x)) (Ent.refl _));simp only[stkA,al,ak];exact ah
 ·rw[oO,show(2*l.length+1) / 2=l.length by omega,show 2*l.length / 2=l.length by omega];generalize divF l cs l.length=T;generalize divR l cs l.length=R;simp only[aH];refine KX.c7 (KX.d9 ?_);refine G.c8 (f:=stkA b4 T) ?_;rintro⟨a0,c1⟩;refine G.ent (L':=stkO b5 R::stkA b4 T (a0,c1)) (Ent.perm (by simp only[stkA,al,ak];exact(List.Perm.cons _ (List.Perm.swap _ _ _)).trans (List.Perm.swap _ _ _))) ?_;refine G.c8 (f:=stkA b5 R) ?_;rintro⟨a1,c2⟩;simp only[stkA,al,ak];refine Xt ?_;intros;refine KX.a8 (vs:=[ag a0 T.length c1,ag a1 R.length c2]) (ResOk.a8 rfl (ResOk.a8 rfl ResOk.nil)) ?_ ⟨a0,c1,a1,c2,rfl,rfl⟩;exact ah
