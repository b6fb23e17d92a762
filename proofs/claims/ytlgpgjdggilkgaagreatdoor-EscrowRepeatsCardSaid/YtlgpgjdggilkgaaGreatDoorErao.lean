/- Lemmas. -/
import Derived.Shelf.SlSortCmp.WholeK
import Derived.Shelf.SlSortCmp.Whole1
import Derived.Shelf.SlSortCmp.NoneTotal
import Derived.Shelf.SlGeneric
import Derived.Shelf.SlLaysF
import Derived.Shelf.SlLaysF0
import Derived.Ground.SlsfProg
import Derived.Test.YtlgpgjdggilkgaaGreatDoorEran
set_option linter.all false
set_option maxHeartbeats 1000000
namespace Go.V
open Go.Sort Go.Proofs
def Eh:∀{a b:World},a.heap=b.heap->a.tape=b.tape->a.drawn=b.drawn->a.os=b.os->a.output=b.output->a=b:=by
 rintro⟨_,_,_,_,_⟩ ⟨_,_,_,_,_⟩ J U h3 h4 h5;cases J;cases U;cases h3;cases h4;cases h5;rfl
def Λ.d8{P:Program}{f:FuncId}{args:Array Value}{L:LH}{v:Value}(h:Λ P f args L (λu _=>u=v)){w:World}{ι:Hp}(hi:Hp.sub ι (gk w))(hs:IC L ι Hp.emp) :
  Calls P f args w λe ab=>e=.returned v/\∃q a4,ab = grow (w.drewN q) a4:=by
 have a3:IC L (gk w) Hp.emp:=hs.mono hi (Hp.sub.refl _);have s0:Sat ⟨w.tape,w.os,w.output,w.drawn⟩ (L++[ue w]) w:=⟨⟨rfl,rfl,rfl,au _⟩,gk w,Hp.emp,λ_ _ _=>rfl,Hp.sub.refl _,Hp.a8 _,a3.snoc (Hp.sub.refl _)⟩;refine(h.calls _ _ w s0).mono ?_;rintro e ab ⟨u,Y,rfl,rfl,s1⟩;refine⟨rfl,ab.drawn - w.drawn,ab.heap.extract w.heap.size ab.heap.size,?_⟩;have s2:Sat ⟨w.tape,w.os,w.output,w.drawn⟩ (ue w::Y) ab:=s1.perm (List.perm_append_singleton _ _);obtain⟨ok,ι',h,a,b1,c,F9,D7,C3,d1,d2,d3,d4,d5,d6⟩:=s2;have hk:∀k o,w.heap[k]? = some o->ab.heap[k]? = some o:=λk o K=>b1 k o (d1 k o (d5 k o K))
 have a7:w.heap.size<=ab.heap.size:=by
  rcases Nat.lt_or_ge ab.heap.size w.heap.size with a2|I
  .have J:=hk ab.heap.size _ (Array.getElem?_eq_getElem a2);rw[Array.getElem?_eq_none (au _)] at J;cases J
  .exact I
 have a5:w.drawn<=ab.drawn:=ok.drawn;refine Eh ?_ ok.tape ?_ ok.os ok.output
 .show ab.heap=w.heap++ab.heap.extract w.heap.size ab.heap.size;apply Array.ext_getElem?;intro k;by_cases r:k<w.heap.size
  .rw[Array.getElem?_append_left r,Array.getElem?_eq_getElem r];exact hk k _ (Array.getElem?_eq_getElem r)
  .rw[Array.getElem?_append_right B,Array.getElem?_extract];by_cases a6:k<ab.heap.size
   .rw[μ B,show w.heap.size+(k - w.heap.size)=k by omega]
   .rw[Ω B,Array.getElem?_eq_none B]
 .show ab.drawn=w.drawn+(ab.drawn - w.drawn);omega
def qZ{α:Type}[Inhabited α]{Β:α->Value}{w:World}{ι:Hp}{r off m:Nat}{Ξ:Array α}{os:Array Obj}(hi:Hp.sub ι (gk w))(hb:ι r=none):Hp.sub ι (gk (grow (Sort.putRow Β (Sort.ahead w m) r off Ξ) os)):=by
 intro k o hk;have K:w.heap[k]? = some o:=hi k o hk;have a2:k≠r:=by rintro rfl;rw[hb] at hk;cases hk
 have I:k<w.heap.size:=(Array.getElem?_eq_some_iff.1 K).1;show(w.heap.modify r (onCells (putCells Β off Ξ))++os)[k]? = _;rw[Array.getElem?_append_left (by simpa using I),Array.getElem?_modify,Ω (λe=>a2 e.symm),K]
def uV{vs:LV}{r:Array Value}(hc:vs.length<=r.size):(putCells id 0 vs.toArray r).toList.take vs.length=vs:=by
 apply fY;intro i;by_cases hi:i<vs.length
 .have U:i<r.size:=B;rw[List.getElem?_take,μ hi];simp[putCells,hi,U]
 .rw[List.getElem?_take,Ω hi];simp;omega
def Du{g Τ:Nat}{r:Array Value}{vs:LV}{w:World}(hb:w.heap[g]? = some (.cells r Τ (0,0)))(ht:r.toList.take vs.length=vs):Holds id w g 0 vs.toArray:=by
 intro j hj;have I : j<vs.length:=by simpa using hj
 refine⟨?_,by simp[World.frozen?,hb]⟩;rw[cW,dI hb];have h:(r.toList.take vs.length)[j]? = vs[j]?:=by rw[ht]
 rw[List.getElem?_take,μ I] at h;simp[I] at h;simp[I,h]
def Sat.j6{θ:Th}{g Τ:Nat}{I:Array Value}{Α:LH}{w:World}{Ξ:Array Value}{n:Nat}{os:Array Obj}(s:Sat θ (h1 g (.cells I Τ (0,0))::Α) w) :
  Sat θ (h1 g (.cells (putCells id 0 Ξ I) Τ (0,0))::Α) (grow (Sort.putRow id (Sort.ahead w n) g 0 Ξ) os):=by
 have hb:=s.IN;have a2:g<w.heap.size:=(Array.getElem?_eq_some_iff.1 hb).1;refine s.update ⟨s.1.tape,s.1.os,s.1.output,aQ s.1.drawn (Nat.le_add_right _ _)⟩ ?_ ?_
 .show(w.heap.modify g (onCells (putCells id 0 Ξ))++os)[g]? = _;rw[Array.getElem?_append_left (by simpa using a2),Array.getElem?_modify,μ rfl,hb];rfl
 .intro k x hk K;have r:k<w.heap.size:=(Array.getElem?_eq_some_iff.1 K).1;show(w.heap.modify g (onCells (putCells id 0 Ξ))++os)[k]? = _;rw[Array.getElem?_append_left (by simpa using r),Array.getElem?_modify,Ω (λe=>hk e.symm),K]
def Λ.c7{P:Program}{f:FuncId}{Τ cap sz:Nat}{M:OA}{α:Type}{Β:α->LV}{D:List α}{Lc:LH}{fv:Value}(he:Enters P f)(a9:∀ι h,IC Lc ι h->IC Lc ι Hp.emp)(r:List α->Prop)(b8:D=[]->r [])
  (h0:D.length=0->∀w,Calls P f #[.slice M 0 cap,fv] w λe ab=>e=.returned (.tuple #[])/\ab = w)
  (J:∀a5 w ι,Hp.sub ι (gk w)->ι a5=none->IC Lc ι Hp.emp->Holds id w a5 0 (D.flatMap Β).toArray->a5<w.heap.size ->
   Calls P f #[.slice (some ⟨a5,0,none⟩) D.length cap,fv] w λe ab=>e=.returned (.tuple #[])/\∃ys n os,ys.length=D.length/\(∀y∈ys,(Β y).length=sz)/\r ys/\ab = grow (Sort.putRow id (Sort.ahead w n) a5 0 (ys.flatMap Β).toArray) os) :
  Λ P f #[.slice M D.length cap,fv] (Υ Β sz Τ M cap D::Lc) (λv Y=>v=.tuple #[]/\∃ys,r ys/\Y = Υ Β sz Τ M cap ys::Lc):=by
 refine⟨he,λθ Α w s=>?_⟩;by_cases K:D.length=0
 .have e1:D=[]:=bG K;subst e1;refine(h0 rfl w).mono ?_;rintro e ab ⟨rfl,rfl⟩;exact⟨_,_,rfl,⟨rfl,[],b8 rfl,rfl⟩,s⟩
 obtain⟨I,a2,a3,a4⟩:=Sat.Lw (L:=Lc++Α) s;rcases a4 with⟨rfl,rfl⟩|⟨g,b0,rfl,b1,b2,b3⟩
 .omega
 have hb:=b3.IN;have b7:=cF I;have b4:b0.toList.take (D.flatMap Β).length=D.flatMap Β:=by rw[b7];exact b2
 obtain⟨ok,ι,h,a,c1,c2,F9,D7,C3,d1,d2,d3,d4,d5,d6⟩:=b3
 have b9:ι g=none:=by
  cases TK:ι g with
  | none=>rfl
  | some o =>
   have h3:=a g o TK;have h4:h g=some (.cells b0 Τ (0,0)):=d3 g _ d5;rw[h3] at h4;cases h4
 have b6:IC Lc ι Hp.emp:=by
  obtain⟨x1,x2,y1,y2,y3,y4,y5⟩:=IC.split d6;exact a9 ι x1 y4
 have b3:Sat θ (h1 g (.cells b0 Τ (0,0))::(Lc++Α)) w:=⟨ok,ι,h,a,c1,c2,F9,D7,C3,d1,d2,d3,d4,d5,d6⟩;refine(J g w ι c1 b9 b6 (Du hb b4) (Array.getElem?_eq_some_iff.1 hb).1).mono ?_;rintro e ab ⟨rfl,ys,n,os,hl,b5,a7,rfl⟩;refine⟨_,_,rfl,⟨rfl,ys,a7,rfl⟩,?_⟩;have a6:=cF b5;have c0:D.length*sz<=cap*sz:=bK _ a2;refine Sat.Mu (L:=Lc++Α) (Sat.j6 b3) b5 B a3 ?_ ?_
 .simp[putCells,b1]
 .rw[<-a6];exact uV (by rw[a6,hl,b1];exact c0)
def Dw{α:Type}[Inhabited α]{Β:α->Value}{w:World}{g:Nat}{D:List α}(h:Holds id w g 0 (D.flatMap λx=>[Β x]).toArray):Holds Β w g 0 D.toArray:=by
 intro j hj;have r : j<D.length:=by simpa using hj
 have hf:(D.flatMap λx=>[Β x])=D.map Β:=mJ _ D;rw[hf] at h;have:=h j (by simpa using r)
 simpa [r] using this
def Ax{α:Type}[Inhabited α]{Β:α->Value}{w:World}{g:Nat}{Ξ:Array α}:Sort.putRow Β w g 0 Ξ=Sort.putRow id w g 0 (Ξ.toList.flatMap λx=>[Β x]).toArray:=by
 have hf:∀l:List α,(l.flatMap λx=>[Β x])=l.map Β:=λl=>mJ _ l;rw[hf];unfold Sort.putRow;congr 1;funext c;unfold putCells;apply Array.ext
 .simp
 .intro i J U;simp only[Array.getElem_mapIdx,fW,ah,dF,cW,Nat.sub_zero,id_eq];split
  .rename_i r;simp[r.2]
  .rfl
def mU{α:Type}[Inhabited α]{D:List α}{d' : Array α}(h:PermIn 0 D.toArray.size D.toArray d'):d'.toList.Perm D:=by
 obtain⟨J,_,h3⟩:=h;have e1:(D.toArray.extract 0 D.toArray.size)=D.toArray:=by simp
 have e2:(d'.extract 0 D.toArray.size)=d':=by rw[<-J];simp
 rw[e1,e2] at h3;simpa using h3
def kI{α:Type}[Inhabited α]{lt:α->α->Bool}{Ξ:Array α}(h:SortedIn lt 0 Ξ.size Ξ):Ξ.toList.Pairwise (λa b=>lt b a=false):=by
 rw[List.pairwise_iff_getElem];intro i j hi hj I;have:=h i j (aC _) I (by simpa using hj)
 have r : i<Ξ.size:=by simpa using hi
 have a2 : j<Ξ.size:=by simpa using hj
 simpa [r,a2] using this
def gc{α:Type}(cf:α->α->Int)(D ys:List α):Prop:=ys.Perm D/\ys.Pairwise (λa b=>¬cf b a<0)
def Λ.d7{P:Program}{ρ:Go.Shelf.Ren}(S:SlLaysF.n6 P ρ)(S0:SlLaysF0.n6 P ρ){Τ cap:Nat}{M:OA}{α:Type}[Inhabited α]{Β:α->Value}(J:OneCell Β){D:List α}{Lc:LH}{g:Nat}{cb:Array Value}(cf:α->α->Int)(hO:SWO (ltOf cf))
  (he:Enters P (ρ.f 6)) (a7:Enters P g) (r:∀ι h,IC Lc ι h->IC Lc ι Hp.emp) (a2:∀x y:α,Λ P g (#[Β x,Β y]++cb) Lc (λu _=>u=E (cf x y))) (a9:D.length<4611686018427387904) :
  Λ P (ρ.f 6) #[.slice M D.length cap,.func (.func g) #[] cb] (Υ (λx=>[Β x]) 1 Τ M cap D::Lc) (λv Y=>v=.tuple #[]/\∃ys,gc cf D ys/\Y = Υ (λx=>[Β x]) 1 Τ M cap ys::Lc):=by
 refine Λ.c7 he r (gc cf D) (λh=>by subst h;exact⟨List.Perm.refl _,List.Pairwise.nil⟩) ?_ ?_
 .intro h0 w;exact AnyF.slices_SortFunc_none S0 M cap (.func (.func g) #[] cb) w
 .intro a4 w ι hi hb hL hH I;have hc:=Any.slices_SortFunc S Β J cf hO g cb a4 0 cap D.toArray w a7 (λm os dk _ x y=>Λ.d8 (a2 x y) (qZ hi hb) hL) (Dw hH) I (by simpa using a9);rw[show D.toArray.size=D.length by simp] at hc;refine hc.mono ?_;rintro e ab ⟨rfl,d',n,os,hp,hs,rfl⟩;have a3:d'.toList.Perm D:=mU (by simpa using hp);have a6:d'.size=D.length:=by have:=a3.length_eq;simpa using this
  refine⟨rfl,d'.toList,n,os,a3.length_eq,λ_ _=>rfl,⟨a3,?_⟩,?_⟩
  .rw[<-a6] at hs;refine(kI hs).imp ?_;intro a b a5;simpa [ltOf] using a5
  .unfold sortWorld;rw[Ax]
def wz{α:Type}[Inhabited α]{Β:α->LV}{k:Nat}(hk:∀x,(Β x).length=k)(D:List α):flatK Β k D.toArray=(D.flatMap Β).toArray:=by
 have hl:(D.flatMap Β).length=D.length*k:=cF (λx _=>hk x);apply Array.ext_getElem?;intro i;by_cases J:i<D.length*k
 .have r:0<k:=by
   rcases Nat.eq_zero_or_pos k with h|h
   .subst h;simp at J
   .exact h
  have hj:i / k<D.length:=Nat.div_lt_of_lt_mul (by rw[Nat.mul_comm];exact J);have ho:i % k<k:=dA _ r;have U:=lN (D:=D) (λx _=>hk x) hj ho;rw[show i / k*k+i % k=i from Nat.div_add_mod' i k] at U;have h3:=get_flatK Β k D.toArray i (by simpa using J);have h4:i<(flatK Β k D.toArray).size:=by rw[size_flatK];simpa using J
  rw[getElem!_pos _ i h4] at h3;rw[Array.getElem?_eq_getElem h4,h3,List.getElem?_toArray,U,List.getElem?_eq_getElem (by rw[hk];exact ho)];simp[hj,hk,ho]
 .rw[Array.getElem?_eq_none (by rw[size_flatK];simpa using J),List.getElem?_toArray,List.getElem?_eq_none B]
def Λ.a8{P:Program}{ρ:Go.Shelf.Ren}(S:SlLaysF0.n6 P ρ){k Τ cap:Nat}(aE:∀w,(isAgg (ρ.t 24)).run P w=.ok true w)(zE:∀w,(Go.sizeOf (ρ.t 24)).run P w=.ok k w){M:OA}{α:Type}[Inhabited α]{Β:α->LV}(hk:∀x,(Β x).length=k)(J:∀x,∀v∈Β x,v.oneCell' = true){D:List α}{Lc:LH}{g:Nat}{cb:Array Value}(cf:α->α->Int)(hO:SWO (ltOf cf))
  (he:Enters P (ρ.f 6)) (a7:Enters P g) (r:∀ι h,IC Lc ι h->IC Lc ι Hp.emp) (a2:∀x y:α,Λ P g (#[.agg (Β x).toArray,.agg (Β y).toArray]++cb) Lc (λu _=>u=E (cf x y))) (a9:D.length<4611686018427387904) :
  Λ P (ρ.f 6) #[.slice M D.length cap,.func (.func g) #[] cb] (Υ Β k Τ M cap D::Lc) (λv Y=>v=.tuple #[]/\∃ys,gc cf D ys/\Y = Υ Β k Τ M cap ys::Lc):=by
 refine Λ.c7 he r (gc cf D) (λh=>by subst h;exact⟨List.Perm.refl _,List.Pairwise.nil⟩) ?_ ?_
 .intro h0 w;exact AnyF.slices_SortFunc_none S M cap (.func (.func g) #[] cb) w
 .intro a4 w ι hi hb hL hH I;have hc:=AnyQ.slices_SortFunc S k aE zE Β hk J cf hO g cb a4 0 cap D.toArray w a7 (λm os dk _ x y=>Λ.d8 (a2 x y) (qZ hi hb) hL) (by unfold HoldsK;rw[wz hk];exact hH) I (by simpa using a9);rw[show D.toArray.size=D.length by simp] at hc;refine hc.mono ?_;rintro e ab ⟨rfl,d',n,os,hp,hs,rfl⟩;have a3:d'.toList.Perm D:=mU (by simpa using hp);have a6:d'.size=D.length:=by have:=a3.length_eq;simpa using this
  refine⟨rfl,d'.toList,n,os,a3.length_eq,λy _=>hk y,⟨a3,?_⟩,?_⟩
  .rw[<-a6] at hs;refine(kI hs).imp ?_;intro a b a5;simpa [ltOf] using a5
  .unfold sortWorldK putRowK;have:=wz hk d'.toList
   simp only[Array.toArray_toList] at this;rw[this]
def A.n7{α β:Type}{f:α->β}{Β:β->LV}{sz Τ:Nat}{M:OA}{cap:Nat}{D:List α}{L:LH}:A (Υ Β sz Τ M cap (D.map f)::L) (Υ (λx=>Β (f x)) sz Τ M cap D::L):=λθ Α w s=>by
 obtain⟨ok,ι,h,a,b1,c,F9,D7,C3,d1,d2,d3,d4,⟨e1,e2,e3,e4⟩,d6⟩:=s;refine⟨ok,ι,h,a,b1,c,F9,D7,C3,d1,d2,d3,d4,⟨λx K=>e1 _ (Kg K),by simpa using e2,e3,?_⟩,d6⟩;rcases e4 with e4|⟨g,r,f1,f2,f3,f4⟩
 .exact .inl e4
 .refine .inr ⟨g,r,f1,f2,f3,?_⟩;rw[ah] at f4;rw[f4,List.flatMap_map]
def A.n5{α β:Type}{f:α->β}{Β:β->LV}{sz Τ:Nat}{M:OA}{cap:Nat}{D:List α}{L:LH}:A (Υ (λx=>Β (f x)) sz Τ M cap D::L) (Υ Β sz Τ M cap (D.map f)::L):=λθ Α w s=>by
 obtain⟨ok,ι,h,a,b1,c,F9,D7,C3,d1,d2,d3,d4,⟨e1,e2,e3,e4⟩,d6⟩:=s;refine⟨ok,ι,h,a,b1,c,F9,D7,C3,d1,d2,d3,d4,⟨λy Z=>?_,by simpa using e2,e3,?_⟩,d6⟩
 .obtain⟨x,K,rfl⟩:=IY Z;exact e1 x K
 rcases e4 with e4|⟨g,r,f1,f2,f3,f4⟩
 .exact .inl e4
 .refine .inr ⟨g,r,f1,f2,f3,?_⟩;rw[ah,f4,List.flatMap_map]
def A.m9{α:Type}{Β:α->LV}{sz Τ:Nat}{M:OA}{cap:Nat}{D:List α}{L:LH}(n:Nat):A (Υ Β sz Τ M cap D::L) (Υ Β sz Τ M cap (D.take n)::L):=λθ Α w s=>by
 obtain⟨ok,ι,h,a,b1,c,F9,D7,C3,d1,d2,d3,d4,⟨e1,e2,e3,e4⟩,d6⟩:=s;refine⟨ok,ι,h,a,b1,c,F9,D7,C3,d1,d2,d3,d4,⟨λx K=>e1 x (cl K),by rw[aK];omega,e3,?_⟩,d6⟩;rcases e4 with e4|⟨g,r,f1,f2,f3,f4⟩
 .exact .inl e4
 .refine .inr ⟨g,r,f1,f2,f3,?_⟩;have J:D.flatMap Β=(D.take n).flatMap Β++(D.drop n).flatMap Β:=by rw[<-cZ,cz]
  have U:=cF (D:=D.take n) (λx K=>e1 x (cl K));have h3:(D.take n).length<=D.length:=by rw[aK];omega
  have h4:(D.take n).length*sz<=D.length*sz:=bK _ h3;have h5:(r.toList.take (D.length*sz)).take ((D.take n).length*sz)=r.toList.take ((D.take n).length*sz):=by rw[List.take_take,cX h4]
  rw[<-h5,f4,J,<-U,List.take_left]
end Go.V
namespace Go.Proofs
open Go.Shelf
def Tryz.RW:Go.Shelf.Ren:=⟨λ|6=>321|15=>121|14=>330|28=>181|29=>182|20=>335|21=>336|22=>337|23=>338|24=>339|25=>340|26=>341|27=>342|46=>344|47=>256|48=>257|49=>345|50=>346|57=>347|n=>n,λ|22=>22|24=>3|25=>23|3=>3|39=>61|0=>0|53=>291|55=>293|4=>4|46=>285|45=>284|50=>206|5=>5|9=>9|66=>348|70=>352|76=>380|77=>381|n=>n,λ|n=>n⟩
def Tryz.RX:Go.Proofs.SlLaysF.n6 Tryz.prog Tryz.RW:={
 mixed:=by kernel_rfl
 f6:=⟨Tryz.f321.name,by decide,Tryz.func321.trans (congrArg some (by kernel_rfl))⟩
 f14:=⟨Tryz.f330.name,by decide,Tryz.func330.trans (congrArg some (by kernel_rfl))⟩
 f15:=Tryz.func121.trans (congrArg some (by kernel_rfl))
 f20:=⟨Tryz.f335.name,by decide,Tryz.func335.trans (congrArg some (by kernel_rfl))⟩
 f21:=⟨Tryz.f336.name,by decide,Tryz.func336.trans (congrArg some (by kernel_rfl))⟩
 f22:=⟨Tryz.f337.name,by decide,Tryz.func337.trans (congrArg some (by kernel_rfl))⟩
 f23:=⟨Tryz.f338.name,by decide,Tryz.func338.trans (congrArg some (by kernel_rfl))⟩
 f24:=⟨Tryz.f339.name,by decide,Tryz.func339.trans (congrArg some (by kernel_rfl))⟩
 f25:=⟨Tryz.f340.name,by decide,Tryz.func340.trans (congrArg some (by kernel_rfl))⟩
 f26:=⟨Tryz.f341.name,by decide,Tryz.func341.trans (congrArg some (by kernel_rfl))⟩
 f27:=⟨Tryz.f342.name,by decide,Tryz.func342.trans (congrArg some (by kernel_rfl))⟩
 f28:=Tryz.func181.trans (congrArg some (by kernel_rfl))
 f29:=Tryz.func182.trans (congrArg some (by kernel_rfl))
 f46:=⟨Tryz.f344.name,by decide,Tryz.func344.trans (congrArg some (by kernel_rfl))⟩
 f47:=Tryz.func256.trans (congrArg some (by kernel_rfl))
 f48:=Tryz.func257.trans (congrArg some (by kernel_rfl))
 f49:=⟨Tryz.f345.name,by decide,Tryz.func345.trans (congrArg some (by kernel_rfl))⟩
 f50:=⟨Tryz.f346.name,by decide,Tryz.func346.trans (congrArg some (by kernel_rfl))⟩
 f57:=⟨Tryz.f347.name,by decide,Tryz.func347.trans (congrArg some (by kernel_rfl))⟩
 t0:=Tryz.underlying0
 a0:=Tryz.isAgg0
 z0:=Tryz.sizeOf0
 v0:=Tryz.zeroValue0
 t3:=Tryz.underlying3
 a3:=Tryz.isAgg3
 z3:=Tryz.sizeOf3
 v3:=Tryz.zeroValue3
 t4:=Tryz.underlying4
 a4:=Tryz.isAgg4
 z4:=Tryz.sizeOf4
 v4:=Tryz.zeroValue4
 t5:=Tryz.underlying5
 a5:=Tryz.isAgg5
 z5:=Tryz.sizeOf5
 v5:=Tryz.zeroValue5
 t9:=Tryz.underlying9
 a9:=Tryz.isAgg9
 z9:=Tryz.sizeOf9
 v9:=Tryz.zeroValue9
 t22:=Tryz.underlying22
 a22:=Tryz.isAgg22
 z22:=Tryz.sizeOf22
 v22:=Tryz.zeroValue22
 a24:=Tryz.isAgg3
 z24:=Tryz.sizeOf3
 t25:=Tryz.underlying23
 a25:=Tryz.isAgg23
 z25:=Tryz.sizeOf23
 v25:=Tryz.zeroValue23
 t39:=Tryz.underlying61
 a39:=Tryz.isAgg61
 z39:=Tryz.sizeOf61
 v39:=Tryz.zeroValue61
 t45:=Tryz.underlying284
 a45:=Tryz.isAgg284
 z45:=Tryz.sizeOf284
 v45:=Tryz.zeroValue284
 t46:=Tryz.underlying285
 a46:=Tryz.isAgg285
 z46:=Tryz.sizeOf285
 v46:=Tryz.zeroValue285
 t50:=Tryz.underlying206
 a50:=Tryz.isAgg206
 z50:=Tryz.sizeOf206
 v50:=Tryz.zeroValue206
 t53:=Tryz.underlying291
 a53:=Tryz.isAgg291
 z53:=Tryz.sizeOf291
 v53:=Tryz.zeroValue291
 t55:=Tryz.underlying293
 a55:=Tryz.isAgg293
 z55:=Tryz.sizeOf293
 v55:=Tryz.zeroValue293
 t66:=Tryz.underlying348
 a66:=Tryz.isAgg348
 z66:=Tryz.sizeOf348
 v66:=Tryz.zeroValue348
 t70:=Tryz.underlying352
 a70:=Tryz.isAgg352
 z70:=Tryz.sizeOf352
 v70:=Tryz.zeroValue352
 t76:=Tryz.underlying380
 a76:=Tryz.isAgg380
 z76:=Tryz.sizeOf380
 v76:=Tryz.zeroValue380
 t77:=Tryz.underlying381
 a77:=Tryz.isAgg381
 z77:=Tryz.sizeOf381
 v77:=Tryz.zeroValue381 }
def Tryz.RY:Go.Shelf.Ren:=⟨λ|6=>59|15=>121|14=>120|28=>181|29=>182|20=>173|21=>174|22=>175|23=>176|24=>177|25=>178|26=>179|27=>180|46=>255|47=>256|48=>257|49=>258|50=>259|57=>295|n=>n,λ|22=>56|24=>73|25=>140|3=>3|39=>61|0=>0|53=>291|55=>293|4=>4|46=>285|45=>284|50=>206|5=>5|9=>9|66=>348|70=>352|76=>380|77=>381|n=>n,λ|n=>n⟩
def Tryz.TL:Go.Proofs.SlLaysF0.n6 Tryz.prog Tryz.RY:={
 mixed:=by kernel_rfl
 f6:=⟨Tryz.f59.name,by decide,Tryz.func59.trans (congrArg some (by kernel_rfl))⟩
 f14:=⟨Tryz.f120.name,by decide,Tryz.func120.trans (congrArg some (by kernel_rfl))⟩
 f15:=Tryz.func121.trans (congrArg some (by kernel_rfl))
 f20:=⟨Tryz.f173.name,by decide,Tryz.func173.trans (congrArg some (by kernel_rfl))⟩
 f21:=⟨Tryz.f174.name,by decide,Tryz.func174.trans (congrArg some (by kernel_rfl))⟩
 f22:=⟨Tryz.f175.name,by decide,Tryz.func175.trans (congrArg some (by kernel_rfl))⟩
 f23:=⟨Tryz.f176.name,by decide,Tryz.func176.trans (congrArg some (by kernel_rfl))⟩
 f24:=⟨Tryz.f177.name,by decide,Tryz.func177.trans (congrArg some (by kernel_rfl))⟩
 f25:=⟨Tryz.f178.name,by decide,Tryz.func178.trans (congrArg some (by kernel_rfl))⟩
 f26:=⟨Tryz.f179.name,by decide,Tryz.func179.trans (congrArg some (by kernel_rfl))⟩
 f27:=⟨Tryz.f180.name,by decide,Tryz.func180.trans (congrArg some (by kernel_rfl))⟩
 f28:=Tryz.func181.trans (congrArg some (by kernel_rfl))
 f29:=Tryz.func182.trans (congrArg some (by kernel_rfl))
 f46:=⟨Tryz.f255.name,by decide,Tryz.func255.trans (congrArg some (by kernel_rfl))⟩
 f47:=Tryz.func256.trans (congrArg some (by kernel_rfl))
 f48:=Tryz.func257.trans (congrArg some (by kernel_rfl))
 f49:=⟨Tryz.f258.name,by decide,Tryz.func258.trans (congrArg some (by kernel_rfl))⟩
 f50:=⟨Tryz.f259.name,by decide,Tryz.func259.trans (congrArg some (by kernel_rfl))⟩
 f57:=⟨Tryz.f295.name,by decide,Tryz.func295.trans (congrArg some (by kernel_rfl))⟩
 t0:=Tryz.underlying0
 a0:=Tryz.isAgg0
 z0:=Tryz.sizeOf0
 v0:=Tryz.zeroValue0
 t3:=Tryz.underlying3
 a3:=Tryz.isAgg3
 z3:=Tryz.sizeOf3
 v3:=Tryz.zeroValue3
 t4:=Tryz.underlying4
 a4:=Tryz.isAgg4
 z4:=Tryz.sizeOf4
 v4:=Tryz.zeroValue4
 t5:=Tryz.underlying5
 a5:=Tryz.isAgg5
 z5:=Tryz.sizeOf5
 v5:=Tryz.zeroValue5
 t9:=Tryz.underlying9
 a9:=Tryz.isAgg9
 z9:=Tryz.sizeOf9
 v9:=Tryz.zeroValue9
 t22:=Tryz.underlying56
 a22:=Tryz.isAgg56
 z22:=Tryz.sizeOf56
 v22:=Tryz.zeroValue56
 t25:=Tryz.underlying140
 a25:=Tryz.isAgg140
 z25:=Tryz.sizeOf140
 v25:=Tryz.zeroValue140
 t39:=Tryz.underlying61
 a39:=Tryz.isAgg61
 z39:=Tryz.sizeOf61
 v39:=Tryz.zeroValue61
 t45:=Tryz.underlying284
 a45:=Tryz.isAgg284
 z45:=Tryz.sizeOf284
 v45:=Tryz.zeroValue284
 t46:=Tryz.underlying285
 a46:=Tryz.isAgg285
 z46:=Tryz.sizeOf285
 v46:=Tryz.zeroValue285
 t50:=Tryz.underlying206
 a50:=Tryz.isAgg206
 z50:=Tryz.sizeOf206
 v50:=Tryz.zeroValue206
 t53:=Tryz.underlying291
 a53:=Tryz.isAgg291
 z53:=Tryz.sizeOf291
 v53:=Tryz.zeroValue291
 t55:=Tryz.underlying293
 a55:=Tryz.isAgg293
 z55:=Tryz.sizeOf293
 v55:=Tryz.zeroValue293
 t66:=Tryz.underlying348
 a66:=Tryz.isAgg348
 z66:=Tryz.sizeOf348
 v66:=Tryz.zeroValue348
 t70:=Tryz.underlying352
 a70:=Tryz.isAgg352
 z70:=Tryz.sizeOf352
 v70:=Tryz.zeroValue352
 t76:=Tryz.underlying380
 a76:=Tryz.isAgg380
 z76:=Tryz.sizeOf380
 v76:=Tryz.zeroValue380
 t77:=Tryz.underlying381
 a77:=Tryz.isAgg381
 z77:=Tryz.sizeOf381
 v77:=Tryz.zeroValue381 }
def Tryz.RZ:Go.Shelf.Ren:=⟨λ|6=>117|15=>121|14=>170|28=>181|29=>182|20=>247|21=>248|22=>249|23=>250|24=>251|25=>252|26=>253|27=>254|46=>292|47=>256|48=>257|49=>293|50=>294|57=>309|n=>n,λ|22=>35|24=>47|25=>225|3=>3|39=>61|0=>0|53=>291|55=>293|4=>4|46=>285|45=>284|50=>206|5=>5|9=>9|66=>348|70=>352|76=>380|77=>381|n=>n,λ|n=>n⟩
def Tryz.TM:Go.Proofs.SlLaysF0.n6 Tryz.prog Tryz.RZ:={
 mixed:=by kernel_rfl
 f6:=⟨Tryz.f117.name,by decide,Tryz.func117.trans (congrArg some (by kernel_rfl))⟩
 f14:=⟨Tryz.f170.name,by decide,Tryz.func170.trans (congrArg some (by kernel_rfl))⟩
 f15:=Tryz.func121.trans (congrArg some (by kernel_rfl))
 f20:=⟨Tryz.f247.name,by decide,Tryz.func247.trans (congrArg some (by kernel_rfl))⟩
 f21:=⟨Tryz.f248.name,by decide,Tryz.func248.trans (congrArg some (by kernel_rfl))⟩
 f22:=⟨Tryz.f249.name,by decide,Tryz.func249.trans (congrArg some (by kernel_rfl))⟩
 f23:=⟨Tryz.f250.name,by decide,Tryz.func250.trans (congrArg some (by kernel_rfl))⟩
 f24:=⟨Tryz.f251.name,by decide,Tryz.func251.trans (congrArg some (by kernel_rfl))⟩
 f25:=⟨Tryz.f252.name,by decide,Tryz.func252.trans (congrArg some (by kernel_rfl))⟩
 f26:=⟨Tryz.f253.name,by decide,Tryz.func253.trans (congrArg some (by kernel_rfl))⟩
 f27:=⟨Tryz.f254.name,by decide,Tryz.func254.trans (congrArg some (by kernel_rfl))⟩
 f28:=Tryz.func181.trans (congrArg some (by kernel_rfl))
 f29:=Tryz.func182.trans (congrArg some (by kernel_rfl))
 f46:=⟨Tryz.f292.name,by decide,Tryz.func292.trans (congrArg some (by kernel_rfl))⟩
 f47:=Tryz.func256.trans (congrArg some (by kernel_rfl))
 f48:=Tryz.func257.trans (congrArg some (by kernel_rfl))
 f49:=⟨Tryz.f293.name,by decide,Tryz.func293.trans (congrArg some (by kernel_rfl))⟩
 f50:=⟨Tryz.f294.name,by decide,Tryz.func294.trans (congrArg some (by kernel_rfl))⟩
 f57:=⟨Tryz.f309.name,by decide,Tryz.func309.trans (congrArg some (by kernel_rfl))⟩
 t0:=Tryz.underlying0
 a0:=Tryz.isAgg0
 z0:=Tryz.sizeOf0
 v0:=Tryz.zeroValue0
 t3:=Tryz.underlying3
 a3:=Tryz.isAgg3
 z3:=Tryz.sizeOf3
 v3:=Tryz.zeroValue3
 t4:=Tryz.underlying4
 a4:=Tryz.isAgg4
 z4:=Tryz.sizeOf4
 v4:=Tryz.zeroValue4
 t5:=Tryz.underlying5
 a5:=Tryz.isAgg5
 z5:=Tryz.sizeOf5
 v5:=Tryz.zeroValue5
 t9:=Tryz.underlying9
 a9:=Tryz.isAgg9
 z9:=Tryz.sizeOf9
 v9:=Tryz.zeroValue9
 t22:=Tryz.underlying35
 a22:=Tryz.isAgg35
 z22:=Tryz.sizeOf35
 v22:=Tryz.zeroValue35
 t25:=Tryz.underlying225
 a25:=Tryz.isAgg225
 z25:=Tryz.sizeOf225
 v25:=Tryz.zeroValue225
 t39:=Tryz.underlying61
 a39:=Tryz.isAgg61
 z39:=Tryz.sizeOf61
 v39:=Tryz.zeroValue61
 t45:=Tryz.underlying284
 a45:=Tryz.isAgg284
 z45:=Tryz.sizeOf284
 v45:=Tryz.zeroValue284
 t46:=Tryz.underlying285
 a46:=Tryz.isAgg285
 z46:=Tryz.sizeOf285
 v46:=Tryz.zeroValue285
 t50:=Tryz.underlying206
 a50:=Tryz.isAgg206
 z50:=Tryz.sizeOf206
 v50:=Tryz.zeroValue206
 t53:=Tryz.underlying291
 a53:=Tryz.isAgg291
 z53:=Tryz.sizeOf291
 v53:=Tryz.zeroValue291
 t55:=Tryz.underlying293
 a55:=Tryz.isAgg293
 z55:=Tryz.sizeOf293
 v55:=Tryz.zeroValue293
 t66:=Tryz.underlying348
 a66:=Tryz.isAgg348
 z66:=Tryz.sizeOf348
 v66:=Tryz.zeroValue348
 t70:=Tryz.underlying352
 a70:=Tryz.isAgg352
 z70:=Tryz.sizeOf352
 v70:=Tryz.zeroValue352
 t76:=Tryz.underlying380
 a76:=Tryz.isAgg380
 z76:=Tryz.sizeOf380
 v76:=Tryz.zeroValue380
 t77:=Tryz.underlying381
 a77:=Tryz.isAgg381
 z77:=Tryz.sizeOf381
 v77:=Tryz.zeroValue381 }
end Go.Proofs
namespace Go.Proofs.YtlgpgjdggilkgaaGreatDoor
open Go.V
attribute [local irreducible] Δ R GP Ο h2 O Ef A8 A CB GB Enters
def KI(a b:Int):Int:=if a<b then -1 else if b<a then 1 else 0
def iY{φ ψ:Prop}(k:ψ)(h:Hid ψ->φ:=by intro k;first|refine R.ci (f:=122) (Hid.out k)|refine Ο.ci (f:=122) (Hid.out k)|refine R.cf (f:=122) rfl (Hid.out k)|refine Ο.cf (f:=122) rfl (Hid.out k)|refine KX.Nc (Hid.out k)):φ:=h ⟨k⟩
def jq{L:LH}(a b:Int):Λ Tryz.prog 62 #[E a,E b] L (C9 (E (KI a b)) L):=by
 refine Λ.bd ?_;unfold KI;by_cases J:a<b
 .rw[μ J];repeat first|refine aa ?_|intro _|refine iY ?_
  exact KX.en ⟨rfl,rfl⟩
 rw[Ω J];by_cases U:b<a
 .rw[μ U];repeat first|refine aa ?_|intro _|refine iY ?_
  exact KX.en ⟨rfl,rfl⟩
 rw[Ω U];repeat first|refine aa ?_|intro _|refine iY ?_
 exact KX.en ⟨rfl,rfl⟩
def iX{φ ψ:Prop}(k:ψ)(h:Hid ψ->φ:=by intro k;first|refine R.ci (f:=331) (Hid.out k)|refine Ο.ci (f:=331) (Hid.out k)|refine R.cf (f:=331) rfl (Hid.out k)|refine Ο.cf (f:=331) rfl (Hid.out k)|refine KX.Nc (Hid.out k)):φ:=h ⟨k⟩
def DX{L:LH}(a b:Int):Λ Tryz.prog 323 #[.int .u64 a,.int .u64 b] L (C9 (E (KI a b)) L):=by
 refine Λ.bd ?_;unfold KI;by_cases J:a<b
 .rw[μ J];repeat first|refine aa ?_|intro _|refine iX ?_
  exact KX.en ⟨rfl,rfl⟩
 rw[Ω J];by_cases U:b<a
 .rw[μ U];repeat first|refine aa ?_|intro _|refine iX ?_
  exact KX.en ⟨rfl,rfl⟩
 rw[Ω U];repeat first|refine aa ?_|intro _|refine iX ?_
 exact KX.en ⟨rfl,rfl⟩
def Pp(a b:Int):Int:=if a=0 then b else a
def nC{L:LH}(M:OA)(c:Nat)(a b:Int)[C7 L M Int (a0 .i64) 1 [a,b]]:Λ Tryz.prog 61 #[ae M 2 c] L (C9 (E (Pp a b)) L):=by
 have hl:([a,b]:List Int).length=2:=rfl;have h0:([a,b]:List Int)[(0:Int).toNat]! = a:=rfl;have J:([a,b]:List Int)[((0:Int)+1).toNat]! = b:=rfl;unfold Pp;refine Λ.bd ?_;refine Ih ?_;intros;refine Δ.f5 3 (GR.step ?_);refine Ih ?_;intros;rw[h0];by_cases ha:a=0
 case neg =>
  rw[Ω ha];refine Ih ?_;intros;exact KX.en ⟨rfl,rfl⟩
 rw[μ ha];refine Ih ?_;intros;refine GR.step ?_;refine Ih ?_;intros;rw[J];by_cases hb:b=0
 case neg =>
  refine Ih ?_;intros;exact KX.en ⟨rfl,rfl⟩
 refine Ih ?_;intros;refine GR.step ?_;refine Ih ?_;intros;exact KX.a8 aw (A.refl _) ⟨by rw[hb];rfl,rfl⟩
def jk(n:Int):Prop:=0<=n/\n<=1099511627776
instance:DecidablePred jk:=λn=>by unfold jk;infer_instance
def kX{L:LH}(n:Int):Λ Tryz.prog 319 #[E n] L (C9 (.bool (dB (jk n))) L):=by
 refine Λ.bd ?_;by_cases J:0<=n
 .by_cases U:n<=1099511627776
  .refine Ih ?_;intros;exact KX.a8 aw (A.refl _) ⟨by rw[bI U,bI (show jk n from⟨J,U⟩)];rfl,rfl⟩
  .refine Ih ?_;intros;exact KX.a8 aw (A.refl _) ⟨by rw[bj U,bj (λh:jk n=>U h.2)];rfl,rfl⟩
 .refine Ih ?_;intros;exact KX.a8 aw (A.refl _) ⟨by rw[bj (λh:jk n=>J h.1)];rfl,rfl⟩
def kN(n:Int):Prop:=0<=n/\n<=1152921504606846976
instance:DecidablePred kN:=λn=>by unfold kN;infer_instance
def oN{L:LH}(n:Int):Λ Tryz.prog 327 #[E n] L (C9 (.bool (dB (kN n))) L):=by
 refine Λ.bd ?_;by_cases J:0<=n
 .by_cases U:n<=1152921504606846976
  .refine Ih ?_;intros;exact KX.a8 aw (A.refl _) ⟨by rw[bI U,bI (show kN n from⟨J,U⟩)];rfl,rfl⟩
  .refine Ih ?_;intros;exact KX.a8 aw (A.refl _) ⟨by rw[bj U,bj (λh:kN n=>U h.2)];rfl,rfl⟩
 .refine Ih ?_;intros;exact KX.a8 aw (A.refl _) ⟨by rw[bj (λh:kN n=>J h.1)];rfl,rfl⟩
theorem uL{L:LH}(r num I:Nat)(J:r<=1099511627776)(U:num<=1152921504606846976)(h3:I<=1152921504606846976)(h0:0<I)(hq:r*num / I<=1099511627776) :
  Λ Tryz.prog 320 #[E (r:Int),E (num:Int),E (I:Int)] L (C9 (.tuple #[.int .u64 ((r*num / I:Nat):Int),.int .u64 ((r*num % I:Nat):Int),E 0]) L):=by
 have e:=eW (r*num) 18446744073709551616;rw[Nat.mul_comm] at e
 have a2:r*num / 18446744073709551616<I:=by
  rw[ez ac];have h4:=Nat.lt_div_mul_add (a:=r*num) h0;have h5:r*num / I*I<=1099511627776*I:=bK _ hq;omega
 have a3:=dA (r*num) (show 0<18446744073709551616 by decide);refine Λ.bd ?_;refine Ih ?_;intros;refine R.ca (kX (r:Int)) ?_;rintro _ L ⟨rfl,rfl⟩;rw[bI (show jk (r:Int) from⟨B,B⟩)];refine Ih ?_;intros;refine R.ca (oN (num:Int)) ?_;rintro _ L ⟨rfl,rfl⟩;rw[bI (show kN (num:Int) from⟨B,B⟩)];refine Ih ?_;intros;refine R.ca (oN (I:Int)) ?_;rintro _ L ⟨rfl,rfl⟩;rw[bI (show kN (I:Int) from⟨B,B⟩)];refine Ih ?_;intros;refine R.ca (BA r num B B) ?_;rintro _ L ⟨rfl,rfl⟩;refine Ih ?_;intros;refine R.ca (Cb (r*num / 18446744073709551616) (r*num % 18446744073709551616) I a2 a3 B) ?_;rintro _ L ⟨rfl,rfl⟩;rw[e];refine Ih ?_;intros;exact KX.en ⟨rfl,rfl⟩
def gL(n i:Nat)(f:Nat->Int):List Int:=(List.range n).map (λk=>if k<i then f k else 0)
def mq(n i:Nat)(f:Nat->Int):(gL n i f).length=n:=by simp[gL]
def lm(n:Nat)(f:Nat->Int):gL n 0 f=List.replicate n 0:=by
 apply eN
 .simp[gL]
 .intro i J U;simp[gL]
theorem mo{n i:Nat}(f:Nat->Int)(h:i<n):(gL n i f).set i (f i)=gL n (i+1) f:=by
 apply eN
 .simp[gL]
 grind [gL]
theorem mu(n:Nat)(f:Nat->Int):gL n n f=(List.range n).map f:=by
 apply cK;grind
def Qs(rs:List Int)(i j:Nat):Int:=Pp (KI rs[j]! rs[i]!) (KI i j)
theorem Gd(rs:List Int)(i j:Nat):Qs rs i j<0↔rs[j]! < rs[i]!\/(rs[j]! = rs[i]!/\i<j):=by
 grind [Qs,Pp,KI]
abbrev xF:=Uw [.ev 9,.ev 10,.ef 8,.ef 11,.ef 12,.ef 13,.ev 14]
def Jy{φ ψ:Prop}(k:ψ)(h:Hid ψ->φ:=by intro k;(repeat (first|refine aa ?_|intro sh|refine Δ.dr 20 1 xF ?_));(repeat revert sh);exact Hid.out k):φ:=h ⟨k⟩
def xw(b:Nat)(M:OA)(c:Nat)(rs:List Int)(i j:Nat)(hi:i<rs.length)(hj:j<rs.length)(hl:rs.length<=1000000) :
  Λ Tryz.prog 322 #[E (i:Int),E (j:Int),al b] [ε pM 1 (some ⟨b,0,none⟩) [⟨M,rs.length,c⟩],ε (a0 .u64) 1 M rs] (λu _=>u=E (Qs rs i j)):=by
 have r:(i:Int).toNat=i:=B;have I:(j:Int).toNat=j:=B;have a2:([⟨M,rs.length,c⟩]:List Ns).length=1:=rfl;refine Λ.bd ?_;refine Jy ?_;intros;refine Ο.Js (O.m8 (Β:=pM) (D:=[⟨M,rs.length,c⟩]) (j:=0) (o:=0) rfl rfl bR ac (show _=some (ae M rs.length c) from rfl)) ac ?_;refine Jy ?_;intros;refine Ο.Js (O.m8 (Β:=pM) (D:=[⟨M,rs.length,c⟩]) (j:=0) (o:=0) rfl rfl bR ac (show _=some (ae M rs.length c) from rfl)) ac ?_;refine Jy ?_;intros;rw[r,I];refine Ο.cr (DX rs[j]! rs[i]!) ?_;refine Jy ?_;intros;refine Ο.cr (jq (i:Int) (j:Int)) ?_;refine Jy ?_;intros;rename_i b2;refine Ο.υ (A.d9 (Β:=a0 .i64) (sz:=1) (D:=[KI rs[j]! rs[i]!,KI (i:Int) (j:Int)]) rfl rfl (λ_ _=>rfl) bR) ?_;refine Ο.cr (nC (some ⟨b2,0,none⟩) 2 (KI rs[j]! rs[i]!) (KI (i:Int) (j:Int))) ?_;refine Jy ?_;intros;exact KX.a8 aw (A.refl _) rfl
