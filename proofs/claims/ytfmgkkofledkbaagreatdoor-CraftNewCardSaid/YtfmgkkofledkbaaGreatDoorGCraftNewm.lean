/- Lemmas and contracts of functions. -/
import Derived.Test.YtfmgkkofledkbaaGreatDoorGCraftNewd
import Derived.Shelf.SlSortCmp.WholeK
import Derived.Shelf.SlSortCmp.Whole1
import Derived.Shelf.SlSortCmp.NoneTotal
import Derived.Test.YtfmgkkofledkbaaGreatDoorGCraftNewl
import Derived.Laws.CopyRow
import Derived.Test.YtfmgkkofledkbaaGreatDoorGCraftNewb
set_option linter.all false
namespace Go.V
section
open Go.Sort Go.Proofs
theorem Dt:∀ {a b:World},a.heap=b.heap→a.tape=b.tape→a.drawn=b.drawn→a.os=b.os→a.output=b.output→a=b:=by
 rintro ⟨_,_,_,_,_⟩ ⟨_,_,_,_,_⟩ h1 h2 h3 h4 h5
 cases h1;cases h2;cases h3;cases h4;cases h5;rfl
theorem Tri.a8 {P:Program} {f:FuncId} {args:Array Value} {L:List HP} {v:Value} (h:Tri P f args L (fun u _=>u=v)) {w:World} {ι:Hp} (hi:Hp.sub ι (ga w)) (hs:Stars L ι Hp.emp) :
  Calls P f args w fun e w'=>e=.returned v∧∃ q os',w' = grow (w.drewN q) os':=by
 have hs2:Stars L (ga w) Hp.emp:=hs.mono hi (Hp.sub.refl _)
 have s0:Sat ⟨w.tape,w.os,w.output,w.drawn⟩ (L++[ut w]) w:=⟨⟨rfl,rfl,rfl,aM _⟩,ga w,Hp.emp,fun _ _ _=>rfl,Hp.sub.refl _,Hp.a6 _,hs2.snoc (Hp.sub.refl _)⟩
 refine (h.calls _ _ w s0).mono ?_
 rintro e w' ⟨u,L',rfl,rfl,s1⟩
 refine ⟨rfl,w'.drawn - w.drawn,w'.heap.extract w.heap.size w'.heap.size,?_⟩
 have s2:Sat ⟨w.tape,w.os,w.output,w.drawn⟩ (ut w::L') w':=s1.perm (List.perm_append_singleton _ _)
 obtain ⟨ok,ι',h,a,b1,c,ι₀,h₁,h₂,d1,d2,d3,d4,d5,d6⟩:=s2
 have hk:∀ k o,w.heap[k]? = some o→w'.heap[k]? = some o:=fun k o hx=>b1 k o (d1 k o (d5 k o hx))
 have hsz:w.heap.size≤w'.heap.size:=by
  rcases bP w'.heap.size w.heap.size with hlt|hge
  ·have h1:=hk w'.heap.size _ (Array.getElem?_eq_getElem hlt)
   rw [Array.getElem?_eq_none (aM _)] at h1
   cases h1
  ·exact hge
 have hdr:w.drawn≤w'.drawn:=ok.drawn
 refine Dt ?_ ok.tape ?_ ok.os ok.output
 ·show w'.heap=w.heap++w'.heap.extract w.heap.size w'.heap.size
  apply Array.ext_getElem?
  intro k
  by_cases hk2:k<w.heap.size
  ·rw [Array.getElem?_append_left hk2,Array.getElem?_eq_getElem hk2]
   exact hk k _ (Array.getElem?_eq_getElem hk2)
  ·rw [Array.getElem?_append_right ab,Array.getElem?_extract]
   by_cases hk3:k<w'.heap.size
   ·rw [if_pos ab,show w.heap.size+(k - w.heap.size)=k by omega]
   ·rw [if_neg ab,Array.getElem?_eq_none ab]
 ·show w'.drawn=w.drawn+(w'.drawn - w.drawn)
  omega
theorem nj {α:Type} [Inhabited α] {enc:α→Value} {w:World} {ι:Hp} {blk off m:Nat} {d:Array α} {os:Array Obj} (hi:Hp.sub ι (ga w)) (hb:ι blk=none):Hp.sub ι (ga (grow (Sort.putRow enc (Sort.ahead w m) blk off d) os)):=by
 intro k o hk
 have hx:w.heap[k]? = some o:=hi k o hk
 have hne:k≠blk:=by rintro rfl;rw [hb] at hk;cases hk
 have hlt:k<w.heap.size:=(Array.getElem?_eq_some_iff.1 hx).1
 show (w.heap.modify blk (onCells (putCells enc off d))++os)[k]? = _
 rw [Array.getElem?_append_left (by simpa using hlt),Array.getElem?_modify,if_neg (fun e=>hne e.symm),hx]
theorem oC {vs:List Value} {cur:Array Value} (hc:vs.length≤cur.size):(putCells id 0 vs.toArray cur).toList.take vs.length=vs:=by
 apply eU
 intro i
 by_cases hi:i<vs.length
 ·have h2:i<cur.size:=ab
  rw [List.getElem?_take,if_pos hi]
  simp [putCells,hi,h2]
 ·rw [List.getElem?_take,if_neg hi]
  simp
  omega
theorem tr {g E:Nat} {cur:Array Value} {vs:List Value} {w:World} (hb:w.heap[g]? = some (.cells cur E (0,0))) (ht:cur.toList.take vs.length=vs):Holds id w g 0 vs.toArray:=by
 intro j hj
 have hj' : j<vs.length:=by simpa using hj
 refine ⟨?_,by simp [World.frozen?,hb]⟩
 rw [cW,dY hb]
 have h:(cur.toList.take vs.length)[j]? = vs[j]?:=by rw [ht]
 rw [List.getElem?_take,if_pos hj'] at h
 simp [hj'] at h
 simp [hj',h]
theorem Sat.d7 {θ:Th} {g E:Nat} {cur:Array Value} {R:List HP} {w:World} {d:Array Value} {n:Nat} {os:Array Obj} (s:Sat θ (own g (.cells cur E (0,0))::R) w) :
  Sat θ (own g (.cells (putCells id 0 d cur) E (0,0))::R) (grow (Sort.putRow id (Sort.ahead w n) g 0 d) os):=by
 have hb:=s.own_heap
 have hlt:g<w.heap.size:=(Array.getElem?_eq_some_iff.1 hb).1
 refine s.update ⟨s.1.tape,s.1.os,s.1.output,cM s.1.drawn (Nat.le_add_right _ _)⟩ ?_ ?_
 ·show (w.heap.modify g (onCells (putCells id 0 d))++os)[g]? = _
  rw [Array.getElem?_append_left (by simpa using hlt),Array.getElem?_modify,if_pos rfl,hb]
  rfl
 ·intro k x hk hx
  have hklt:k<w.heap.size:=(Array.getElem?_eq_some_iff.1 hx).1
  show (w.heap.modify g (onCells (putCells id 0 d))++os)[k]? = _
  rw [Array.getElem?_append_left (by simpa using hklt),Array.getElem?_modify,if_neg (fun e=>hk e.symm),hx]
theorem Tri.c6 {P:Program} {f:FuncId} {E cap sz:Nat} {ad:Option Addr} {α:Type} {enc:α→List Value} {xs:List α} {Lc:List HP} {fv:Value} (he:Enters P f) (hpers:∀ ι h,Stars Lc ι h→Stars Lc ι Hp.emp) (good:List α→Prop) (hg0:xs=[]→good [])
  (h0:xs.length=0→∀ w,Calls P f #[.slice ad 0 cap,fv] w fun e w'=>e=.returned (.tuple #[])∧w' = w)
  (h1:∀ blk w ι,Hp.sub ι (ga w)→ι blk=none→Stars Lc ι Hp.emp→Holds id w blk 0 (xs.flatMap enc).toArray→blk<w.heap.size →
   Calls P f #[.slice (some ⟨blk,0,none⟩) xs.length cap,fv] w fun e w'=>e=.returned (.tuple #[])∧∃ ys n os,ys.length=xs.length∧(∀ y∈ys,(enc y).length=sz)∧good ys∧w' = grow (Sort.putRow id (Sort.ahead w n) blk 0 (ys.flatMap enc).toArray) os) :
  Tri P f #[.slice ad xs.length cap,fv] (osl enc sz E ad cap xs::Lc) (fun v L'=>v=.tuple #[]∧∃ ys,good ys∧L' = osl enc sz E ad cap ys::Lc):=by
 refine ⟨he,fun θ R w s=>?_⟩
 by_cases hx:xs.length=0
 ·have e1:xs=[]:=aP hx
  subst e1
  refine (h0 rfl w).mono ?_
  rintro e w' ⟨rfl,rfl⟩
  exact ⟨_,_,rfl,⟨rfl,[],hg0 rfl,rfl⟩,s⟩
 obtain ⟨a1,a2,a3,a4⟩:=Sat.osl_parts (L:=Lc++R) s
 rcases a4 with ⟨rfl,rfl⟩|⟨g,cur,rfl,b1,b2,b3⟩
 ·omega
 have hb:=b3.own_heap
 have hfl:=dA a1
 have hrow:cur.toList.take (xs.flatMap enc).length=xs.flatMap enc:=by rw [hfl];exact b2
 obtain ⟨ok,ι,h,a,c1,c2,ι₀,h₁,h₂,d1,d2,d3,d4,d5,d6⟩:=b3
 have hig:ι g=none:=by
  cases hι:ι g with
  | none=>rfl
  | some o =>
   have h3:=a g o hι
   have h4:h g=some (.cells cur E (0,0)):=d3 g _ d5
   rw [h3] at h4
   cases h4
 have hLc:Stars Lc ι Hp.emp:=by
  obtain ⟨x1,x2,y1,y2,y3,y4,y5⟩:=Stars.split d6
  exact hpers ι x1 y4
 have b3:Sat θ (own g (.cells cur E (0,0))::(Lc++R)) w:=⟨ok,ι,h,a,c1,c2,ι₀,h₁,h₂,d1,d2,d3,d4,d5,d6⟩
 refine (h1 g w ι c1 hig hLc (tr hb hrow) (Array.getElem?_eq_some_iff.1 hb).1).mono ?_
 rintro e w' ⟨rfl,ys,n,os,hl,hsz,hgood,rfl⟩
 refine ⟨_,_,rfl,⟨rfl,ys,hgood,rfl⟩,?_⟩
 have hfl2:=dA hsz
 have hle:xs.length*sz≤cap*sz:=bL _ a2
 refine Sat.osl_mk (L:=Lc++R) (Sat.d7 b3) hsz ab a3 ?_ ?_
 ·simp [putCells,b1]
 ·rw [← hfl2]
  exact oC (by rw [hfl2,hl,b1];exact hle)
theorem tu {α:Type} [Inhabited α] {enc:α→Value} {w:World} {g:Nat} {xs:List α} (h:Holds id w g 0 (xs.flatMap fun x=>[enc x]).toArray):Holds enc w g 0 xs.toArray:=by
 intro j hj
 have hj' : j<xs.length:=by simpa using hj
 have hf:(xs.flatMap fun x=>[enc x])=xs.map enc:=mI _ xs
 rw [hf] at h
 have:=h j (by simpa using hj')
 simpa [hj'] using this
theorem rt {α:Type} [Inhabited α] {enc:α→Value} {w:World} {g:Nat} {d:Array α}:Sort.putRow enc w g 0 d=Sort.putRow id w g 0 (d.toList.flatMap fun x=>[enc x]).toArray:=by
 have hf:∀ l:List α,(l.flatMap fun x=>[enc x])=l.map enc:=fun l=>mI _ l
 rw [hf]
 unfold Sort.putRow
 congr 1
 funext c
 unfold putCells
 apply Array.ext
 ·simp
 ·intro i h1 h2
  simp only [Array.getElem_mapIdx,List.size_toArray,av,fm,cW,Nat.sub_zero,id_eq]
  split
  ·rename_i hlt
   simp [hlt.2]
  ·rfl
theorem ky {α:Type} [Inhabited α] {xs:List α} {d' : Array α} (h:PermIn 0 xs.toArray.size xs.toArray d'):d'.toList.Perm xs:=by
 obtain ⟨h1,_,h3⟩:=h
 have e1:(xs.toArray.extract 0 xs.toArray.size)=xs.toArray:=by simp
 have e2:(d'.extract 0 xs.toArray.size)=d':=by rw [← h1];simp
 rw [e1,e2] at h3
 simpa using h3
theorem iU {α:Type} [Inhabited α] {lt:α→α→Bool} {d:Array α} (h:SortedIn lt 0 d.size d):d.toList.Pairwise (fun a b=>lt b a=false):=by
 rw [List.pairwise_iff_getElem]
 intro i j hi hj hij
 have:=h i j (ap _) hij (by simpa using hj)
 have hi' : i<d.size:=by simpa using hi
 have hj' : j<d.size:=by simpa using hj
 simpa [hi',hj'] using this
def gG {α:Type} (cf:α→α→Int) (xs ys:List α):Prop:=ys.Perm xs∧ys.Pairwise (fun a b=>¬cf b a<0)
theorem Tri.c9 {P:Program} {ρ:Go.Shelf.Ren} (S:SlLaysF.n6 P ρ) (S0:SlLaysF0.n6 P ρ) {E cap:Nat} {ad:Option Addr} {α:Type} [Inhabited α] {enc:α→Value} (h1:OneCell enc) {xs:List α} {Lc:List HP} {g:Nat} {cb:Array Value} (cf:α→α→Int) (hO:SWO (ltOf cf))
  (he:Enters P (ρ.f 6)) (heg:Enters P g) (hpers:∀ ι h,Stars Lc ι h→Stars Lc ι Hp.emp) (hcmp:∀ x y:α,Tri P g (#[enc x,enc y]++cb) Lc (fun u _=>u=.int .i64 (cf x y))) (hsz:xs.length<4611686018427387904) :
  Tri P (ρ.f 6) #[.slice ad xs.length cap,.func (.func g) #[] cb] (osl (fun x=>[enc x]) 1 E ad cap xs::Lc) (fun v L'=>v=.tuple #[]∧∃ ys,gG cf xs ys∧L' = osl (fun x=>[enc x]) 1 E ad cap ys::Lc):=by
 refine Tri.c6 he hpers (gG cf xs) (fun h=>by subst h;exact ⟨List.Perm.refl _,List.Pairwise.nil⟩) ?_ ?_
 ·intro h0 w
  exact AnyF.slices_SortFunc_none S0 ad cap (.func (.func g) #[] cb) w
 ·intro blk w ι hi hb hL hH hblk
  have hc:=Any.slices_SortFunc S enc h1 cf hO g cb blk 0 cap xs.toArray w heg (fun m os dk _ x y=>Tri.a8 (hcmp x y) (nj hi hb) hL) (tu hH) hblk (by simpa using hsz)
  rw [show xs.toArray.size=xs.length by simp] at hc
  refine hc.mono ?_
  rintro e w' ⟨rfl,d',n,os,hp,hs,rfl⟩
  have hp2:d'.toList.Perm xs:=ky (by simpa using hp)
  have hds:d'.size=xs.length:=by have:=hp2.length_eq;simpa using this
  refine ⟨rfl,d'.toList,n,os,hp2.length_eq,fun _ _=>rfl,⟨hp2,?_⟩,?_⟩
  ·rw [← hds] at hs
   refine (iU hs).imp ?_
   intro a b hab
   simpa [ltOf] using hab
  ·unfold sortWorld
   rw [rt]
theorem vX {α:Type} [Inhabited α] {enc:α→List Value} {k:Nat} (hk:∀ x,(enc x).length=k) (xs:List α):flatK enc k xs.toArray=(xs.flatMap enc).toArray:=by
 have hl:(xs.flatMap enc).length=xs.length*k:=dA (fun x _=>hk x)
 apply Array.ext_getElem?
 intro i
 by_cases h1:i<xs.length*k
 ·have hk0:0<k:=by
   rcases ee k with h|h
   ·subst h;simp at h1
   ·exact h
  have hj:i / k<xs.length:=Nat.div_lt_of_lt_mul (by rw [cL];exact h1)
  have ho:i % k<k:=bF _ hk0
  have h2:=nJ (xs:=xs) (fun x _=>hk x) hj ho
  rw [show i / k*k+i % k=i from Nat.div_add_mod' i k] at h2
  have h3:=get_flatK enc k xs.toArray i (by simpa using h1)
  have h4:i<(flatK enc k xs.toArray).size:=by rw [size_flatK];simpa using h1
  rw [getElem!_pos _ i h4] at h3
  rw [Array.getElem?_eq_getElem h4,h3,List.getElem?_toArray,h2,List.getElem?_eq_getElem (by rw [hk];exact ho)]
  simp [hj,hk,ho]
 ·rw [Array.getElem?_eq_none (by rw [size_flatK];simpa using h1),List.getElem?_toArray,List.getElem?_eq_none ab]
theorem Tri.c8 {P:Program} {ρ:Go.Shelf.Ren} (S:SlLaysF0.n6 P ρ) {k E cap:Nat} (aE:∀ w,(isAgg (ρ.t 24)).run P w=.ok true w) (zE:∀ w,(Go.sizeOf (ρ.t 24)).run P w=.ok k w) {ad:Option Addr} {α:Type} [Inhabited α] {enc:α→List Value} (hk:∀ x,(enc x).length=k) (h1:∀ x,∀ v∈enc x,v.oneCell' = true) {xs:List α} {Lc:List HP} {g:Nat} {cb:Array Value} (cf:α→α→Int) (hO:SWO (ltOf cf))
  (he:Enters P (ρ.f 6)) (heg:Enters P g) (hpers:∀ ι h,Stars Lc ι h→Stars Lc ι Hp.emp) (hcmp:∀ x y:α,Tri P g (#[.agg (enc x).toArray,.agg (enc y).toArray]++cb) Lc (fun u _=>u=.int .i64 (cf x y))) (hsz:xs.length<4611686018427387904) :
  Tri P (ρ.f 6) #[.slice ad xs.length cap,.func (.func g) #[] cb] (osl enc k E ad cap xs::Lc) (fun v L'=>v=.tuple #[]∧∃ ys,gG cf xs ys∧L' = osl enc k E ad cap ys::Lc):=by
 refine Tri.c6 he hpers (gG cf xs) (fun h=>by subst h;exact ⟨List.Perm.refl _,List.Pairwise.nil⟩) ?_ ?_
 ·intro h0 w
  exact AnyF.slices_SortFunc_none S ad cap (.func (.func g) #[] cb) w
 ·intro blk w ι hi hb hL hH hblk
  have hc:=AnyQ.slices_SortFunc S k aE zE enc hk h1 cf hO g cb blk 0 cap xs.toArray w heg (fun m os dk _ x y=>Tri.a8 (hcmp x y) (nj hi hb) hL) (by unfold HoldsK;rw [vX hk];exact hH) hblk (by simpa using hsz)
  rw [show xs.toArray.size=xs.length by simp] at hc
  refine hc.mono ?_
  rintro e w' ⟨rfl,d',n,os,hp,hs,rfl⟩
  have hp2:d'.toList.Perm xs:=ky (by simpa using hp)
  have hds:d'.size=xs.length:=by have:=hp2.length_eq;simpa using this
  refine ⟨rfl,d'.toList,n,os,hp2.length_eq,fun y _=>hk y,⟨hp2,?_⟩,?_⟩
  ·rw [← hds] at hs
   refine (iU hs).imp ?_
   intro a b hab
   simpa [ltOf] using hab
  ·unfold sortWorldK putRowK
   have:=vX hk d'.toList
   simp only [Array.toArray_toList] at this
   rw [this]
theorem Ent.g8 {α β:Type} {f:α→β} {enc:β→List Value} {sz E:Nat} {ad:Option Addr} {cap:Nat} {xs:List α} {L:List HP}:Ent (osl enc sz E ad cap (xs.map f)::L) (osl (fun x=>enc (f x)) sz E ad cap xs::L):=fun θ R w s=>by
 obtain ⟨ok,ι,h,a,b1,c,ι₀,h₁,h₂,d1,d2,d3,d4,⟨e1,e2,e3,e4⟩,d6⟩:=s
 refine ⟨ok,ι,h,a,b1,c,ι₀,h₁,h₂,d1,d2,d3,d4,⟨fun x hx=>e1 _ (alStd0List_mem_map_of_mem hx),by simpa using e2,e3,?_⟩,d6⟩
 rcases e4 with e4|⟨g,cur,f1,f2,f3,f4⟩
 ·exact .inl e4
 ·refine .inr ⟨g,cur,f1,f2,f3,?_⟩
  rw [av] at f4
  rw [f4,List.flatMap_map]
theorem Ent.g7 {α β:Type} {f:α→β} {enc:β→List Value} {sz E:Nat} {ad:Option Addr} {cap:Nat} {xs:List α} {L:List HP}:Ent (osl (fun x=>enc (f x)) sz E ad cap xs::L) (osl enc sz E ad cap (xs.map f)::L):=fun θ R w s=>by
 obtain ⟨ok,ι,h,a,b1,c,ι₀,h₁,h₂,d1,d2,d3,d4,⟨e1,e2,e3,e4⟩,d6⟩:=s
 refine ⟨ok,ι,h,a,b1,c,ι₀,h₁,h₂,d1,d2,d3,d4,⟨fun y hy=>?_,by simpa using e2,e3,?_⟩,d6⟩
 ·obtain ⟨x,hx,rfl⟩:=List.mem_map.1 hy
  exact e1 x hx
 rcases e4 with e4|⟨g,cur,f1,f2,f3,f4⟩
 ·exact .inl e4
 ·refine .inr ⟨g,cur,f1,f2,f3,?_⟩
  rw [av,f4,List.flatMap_map]
theorem Ent.j0 {α:Type} {enc:α→List Value} {sz E:Nat} {ad:Option Addr} {cap:Nat} {xs:List α} {L:List HP} (n:Nat):Ent (osl enc sz E ad cap xs::L) (osl enc sz E ad cap (xs.take n)::L):=fun θ R w s=>by
 obtain ⟨ok,ι,h,a,b1,c,ι₀,h₁,h₂,d1,d2,d3,d4,⟨e1,e2,e3,e4⟩,d6⟩:=s
 refine ⟨ok,ι,h,a,b1,c,ι₀,h₁,h₂,d1,d2,d3,d4,⟨fun x hx=>e1 x (cC hx),by rw [aQ];omega,e3,?_⟩,d6⟩
 rcases e4 with e4|⟨g,cur,f1,f2,f3,f4⟩
 ·exact .inl e4
 ·refine .inr ⟨g,cur,f1,f2,f3,?_⟩
  have h1:xs.flatMap enc=(xs.take n).flatMap enc++(xs.drop n).flatMap enc:=by rw [← eF,ei]
  have h2:=dA (xs:=xs.take n) (fun x hx=>e1 x (cC hx))
  have h3:(xs.take n).length≤xs.length:=by rw [aQ];omega
  have h4:(xs.take n).length*sz≤xs.length*sz:=bL _ h3
  have h5:(cur.toList.take (xs.length*sz)).take ((xs.take n).length*sz)=cur.toList.take ((xs.take n).length*sz):=by rw [List.take_take,fU h4]
  rw [← h5,f4,h1,← h2,List.take_left]
end
section
section
variable {P:Program} {env:Env} {L:List HP} {ty:TypeId}
theorem Ev.e9 {t yt:TypeId} {x y:Operand} {a b:ByteArray} (hx:evE env x=some (.string a)) (hy:evE env y=some (.string b)) (h:a.size+b.size≤1000000000):Ev P L env (.binOp .add t x y yt) ty (.string (a++b)) :=
 Ev.mk (fun _ _ _ w ea _ _ _ _ _=>by
  have hn:¬((a.size+b.size:Nat):Int)>IntKind.i64.max:=by simp [IntKind.max,IntKind.bits];omega
  simp only [execOp,aw ea hx,aw ea hy,binOp,Op.stringOp,if_neg hn]
  rfl)
theorem Ef.j9 {t:TypeId} {x:Operand} {α:Type} {enc:α→List Value} {ad:Option Addr} {n c i sz E bb cap:Nat} {xs:List α} {z:List Value} {R1:List HP} [ht:TySl P t E sz bb z] [hp:PickOsl L ad α enc sz E cap xs R1]
  (hx:evE env x=some (.slice (advA ad cap sz i) n c)) (hi:i+n=xs.length) (h1:∀ u∈z,u.oneCell' = true)
  : Ef P L env (.call { callee:=.builtin .clear,args:=#[x],argTypes:=#[t] }) ty (fun v L'=>v=.tuple #[]∧L' = osl enc sz E ad cap (xs.take i)::R1) :=
 Ef.val (fun θ R a w ea s dst pos af g=>by
  have s1:=s.perm (hp.perm.append_right R)
  obtain ⟨ii,z0,i1,i2,i3,i4,i5⟩:=ht.parts
  have stake:Sat θ (osl enc sz E ad cap (xs.take i)::R1++R) w:=Ent.j0 i θ R w s1
  by_cases hn:n=0
  ·subst hn
   refine ⟨.tuple #[],w,_,?_,⟨rfl,rfl⟩,stake⟩
   cases hd:advA ad cap sz i with
   | none=>rw [hd] at hx;simp [execOp,resolve,invoke,builtin,aw ea hx,Builtin.clear_,run_underlying ht.under]
   | some d=>rw [hd] at hx;simp [execOp,resolve,invoke,builtin,aw ea hx,Builtin.clear_,run_underlying ht.under]
  obtain ⟨p1,p2,p3,p4⟩:=Sat.osl_parts s1
  rcases p4 with ⟨rfl,rfl⟩|⟨gb,cur,rfl,f1,f2,f3⟩
  ·omega
  have hb:w.heap[gb]? = some (.cells cur E (0,0)):=f3.own_heap
  have hcap:=bL sz p2
  have had:advA (some ⟨gb,0,none⟩) cap sz i=some ⟨gb,i*sz,none⟩:=by
   unfold advA
   rw [if_neg ab]
   simp [fu]
  rw [had] at hx
  have hzs:z0.cells.size=sz:=by rw [← ht.zlen,← i3];simp
  obtain ⟨vs,hvs⟩:∃ vs,vs=(Builtin.zeroCells z0.cells n).toList:=⟨_,rfl⟩
  have hvl:vs.length=n*sz:=by rw [hvs,fm,size_zeroCells,hzs]
  have hv1:∀ u∈vs,u.oneCell' = true:=by
   intro u hu
   rw [hvs] at hu
   simp only [Builtin.zeroCells,Array.toList_map,List.mem_map,Array.toList_range,List.mem_range] at hu
   obtain ⟨k,hk,rfl⟩:=hu
   have hpos:0<z0.cells.size:=by rw [hzs];exact ht.pos
   have hlt:k % z0.cells.size<z0.cells.size:=bF _ hpos
   refine h1 _ ?_
   rw [← i3,getElem!_pos z0.cells _ hlt]
   exact Array.mem_toList_iff.2 (Array.getElem_mem hlt)
  have hmul:i*sz+n*sz=xs.length*sz:=by rw [← dR,hi]
  have hst:=run_storeCells_at P gb (i*sz) E vs 0 cur w hb (by rw [hvl];omega) hv1
  simp only [eR] at hst
  refine ⟨.tuple #[],w.setRow gb (cur.toList.take (i*sz)++vs++cur.toList.drop (i*sz+vs.length)).toArray,_,?_,⟨rfl,rfl⟩,?_⟩
  ·obtain ⟨m,rfl⟩:∃ m,n=m+1:=⟨n - 1,ab⟩
   simp [execOp,resolve,invoke,builtin,aw ea hx,Builtin.clear_,run_underlying ht.under,zeroValue,typeInfo,i1,i2,← hvs,hst]
  ·have s3:Sat θ (own gb (.cells (cur.toList.take (i*sz)++vs++cur.toList.drop (i*sz+vs.length)).toArray E (0,0))::(R1++R)) (w.setRow gb (cur.toList.take (i*sz)++vs++cur.toList.drop (i*sz+vs.length)).toArray) :=
    Sat.update f3 ⟨s.1.tape,s.1.os,s.1.output,s.1.drawn⟩ (setRow_heap w gb _ _ E _ hb) (fun k x hk hx=>by rw [setRow_other w gb k _ hk];exact hx)
   have htl:(xs.take i).length=i:=by rw [aQ];omega
   refine Sat.osl_mk (L:=R1++R) s3 (fun x hx=>p1 x (cC hx)) ab p3 ?_ ?_
   ·simp;omega
   ·have hfl2:=dA (xs:=xs.take i) (fun x hx=>p1 x (cC hx))
    have hl2:(cur.toList.take (i*sz)).length=i*sz:=by simp;omega
    have h5:(cur.toList.take (xs.length*sz)).take (i*sz)=cur.toList.take (i*sz):=by rw [List.take_take,fU ab]
    have h6:xs.flatMap enc=(xs.take i).flatMap enc++(xs.drop i).flatMap enc:=by rw [← eF,ei]
    rw [htl,aD]
    simp only
    rw [List.take_append_of_le_length ab,ax ab,← h5,f2,h6]
    rw [htl] at hfl2
    rw [← hfl2]
    exact List.take_left)
end
end
section
theorem lR {α β:Type} {f g:α→Option β}:∀ {l:List α},(∀ x∈l,f x=g x)→l.filterMap f=l.filterMap g
 | [],_=>rfl
 | a::l,h=>by simp only [List.filterMap_cons,h a aA,lR (fun x hx=>h x (az _ hx))]
section
variable {P:Program} {env:Env} {L:List HP} {ty:TypeId} {κ α:Type}
theorem Ef.g8 {f:FuncId} {x:Operand} {ats:Array TypeId} {t:TypeId} {b:Nat} {kv:κ→Value} {enc:α→Value} {m:List (κ×α)} {Rest:List HP} (hf:IsMapClone P f) [hp:PickG L b κ α kv enc m Rest] (hx:evE env x=some (.iface t (.map (some b)))) :
  Ef P L env (.call { callee:=.value (.func f),args:=#[x],argTypes:=ats }) ty (fun v L'=>∃ b',v=.iface t (.map (some b'))∧L' = gmap kv enc b' m::gmap kv enc b m::Rest) :=
 Ef.val (fun θ R ρ w ea s dst pos af g=>by
  have s1:Sat θ (gmap kv enc b m::(Rest++R)) w:=s.perm (hp.perm.append_right R)
  obtain ⟨es,clock,h1,h2,h3,h4,h5,s2⟩:=Sat.gmap_parts s1
  have hb:=s2.own_heap
  refine ⟨_,w.alloc (.map es clock),_,?_,⟨w.heap.size,rfl,rfl⟩,?_⟩
  ·have hargs:#[x].map ρ=#[.iface t (.map (some b))]:=by simp [aw ea hx]
   have hfn:ρ (.func f)=.func (.func f) #[] #[]:=ea _ _ rfl
   simp [execOp,resolve,Deferred.ofValue,invoke,hfn,aw ea hx,hf.run,sn t hb,Result.andThen]
  ·have s3:=s2.alloc (o:=.map es clock)
   have s4:=Sat.a8 s3 h1 h2 h3 h4 h5
   have s5:=s4.perm (List.Perm.swap _ _ _)
   have s6:=Sat.a8 s5 h1 h2 h3 h4 h5
   exact s6.perm (List.Perm.swap _ _ _))
variable [DecidableEq κ]
def grep (m:List (κ×α)) (k:κ) (a:α):List (κ×α):=m.map fun p=>if p.1=k then (k,a) else p
theorem tz (m:List (κ×α)) (k:κ) (a:α):(grep m k a).map (·.1)=m.map (·.1):=by
 unfold grep
 rw [cw]
 apply cI
 intro p _
 simp only [Function.comp]
 split
 ·rename_i h;exact h.symm
 ·rfl
theorem Ea (m:List (κ×α)) (k:κ) (a:α):(grep m k a).length=m.length:=by simp [grep]
theorem Ef.k8 {t:TypeId} {x y z' : Operand} {b r K E:Nat} {z v kval:Value} {kv:κ→Value} {enc:α→Value} {m done:List (κ×α)} {Rest:List HP} {k:κ} (e:α) [ht:TyG P t K E z] [hk:KeyT P K kv] [hp:PickIt L r κ α kv enc b m done Rest] (hx:evE env x=some (.map (some b))) (hy:evE env y=some kval) (hz:evE env z' = some v) [hkv:KeyVal kv kval k] (hv:v=enc e) (hin:k∈m.map (·.1))
  : Ef P L env (.mapUpdate t x y z') ty (fun _ L'=>L' = eG kv enc b (grep m k e) r (grep done k e)::Rest) :=
 Ef.skip (fun θ R a w ea s dst pos af g=>by
  subst hv;obtain rfl:=hkv.eq
  obtain ⟨⟨es,clock,seen,js⟩,⟨e1,e2,e3,e4,e5,j1,j2,j3,j4⟩,s2⟩:=(s.perm (hp.perm.append_right R)).it_parts
  dsimp only at e1 e3 e4 e5 j1 j2 j3 j4 s2
  have hb:=s2.own_heap
  have hf:=nL (P:=P) (K:=K) k w e1
  have hget:(getObj b).run P w=.ok (.map es clock) w:=by simp [getObj,Sem.run,hb]
  cases hj:m.findIdx? (fun p=>p.1 == k) with
  | none =>
   rw [List.findIdx?_eq_none_iff] at hj
   obtain ⟨p,hp,rfl⟩:=List.mem_map.1 hin
   have:=hj p hp
   simp at this
  | some j =>
   have hset:=iN (a:=e) e2 hj
   obtain ⟨hjlt,hjk,_⟩:=List.findIdx?_eq_some_iff_getElem.1 hj
   rw [hj] at hf
   simp [List.getElem?_eq_getElem hjlt] at hf
   have hsz:es.size=m.length:=by
    have:=congrArg List.length e1
    simpa using this
   have hkey:((es[j]?).map (·.key)).getD (kv k)=kv k:=by
    have h5:=congrArg (fun l=>l[j]?) e1
    simp only [List.getElem?_map,List.getElem?_eq_getElem hjlt,Array.getElem?_toList] at h5
    rw [Array.getElem?_eq_getElem ab] at h5 ⊢
    simp at h5 ⊢
    rw [h5.1]
    simp at hjk
    rw [hjk]
   have hst:(Instr.keyThatStays (((es[j]?).map (·.key)).getD (kv k)) (kv k)).run P w=.ok (kv k) w:=by
    rw [hkey]
    simp [Instr.keyThatStays,hk.bits]
   have hborn:(es.modify j fun x=>{ x with key:=kv k,val:=enc e }).toList.map (·.born)=es.toList.map (·.born):=by
    rw [fW]
    apply eU
    intro i
    simp only [List.getElem?_map,List.getElem?_modify]
    by_cases hij:j=i
    ·subst hij;cases es.toList[j]?<;>simp
    ·simp [hij]
   refine ⟨_,_,?_,rfl,Sat.c8 (es.modify j fun x=>{ x with key:=kv k,val:=enc e },clock,seen,js) ⟨?_,?_,?_,?_,?_,j1,?_,?_,?_⟩ (s2.setMap (o':=.map (es.modify j fun x=>{ x with key:=kv k,val:=enc e }) clock))⟩
   ·simp [execOp,aw ea hx,aw ea hy,aw ea hz,Instr.mapUpdate,run_underlying ht.under,hget,hk.check,hf,hst,gq hb]
   ·show (es.modify j fun x=>{ x with key:=kv k,val:=enc e }).toList.map (fun e=>(e.key,e.val))=(grep m k e).map (fun p=>(kv p.1,enc p.2))
    unfold grep
    rw [hset,fW]
    apply eU
    intro i
    have h5:=congrArg (fun l=>l[i]?) e1
    simp only [List.getElem?_map] at h5
    simp only [List.getElem?_map,List.getElem?_modify,List.getElem?_set]
    by_cases hij:j=i
    ·subst hij
     have hlt:j<es.toList.length:=by simp;omega
     simp [hjlt,List.getElem?_eq_getElem hlt]
    ·simp only [hij,if_false]
     cases hq:es.toList[i]? with
     | none=>rw [hq] at h5;simpa using h5
     | some q=>rw [hq] at h5;simpa using h5
   ·rw [tz];exact e2
   ·simpa using e3
   ·intro x hx
    obtain ⟨i,hi,rfl⟩:=Array.mem_iff_getElem.1 hx
    have h6:es[i]'(by simpa using hi)∈es:=Array.getElem_mem _
    show ((es.modify j fun x=>{ x with key:=kv k,val:=enc e })[i]'(by simpa using hi)).born<clock
    rw [Array.getElem_modify]
    split
    ·exact e4 (es[i]'(by simpa using hi)) h6
    ·exact e4 _ h6
   ·show ((es.modify j fun x=>{ x with key:=kv k,val:=enc e }).toList.map (·.born)).Nodup
    rw [hborn]
    exact e5
   ·intro i hi
    rw [Ea]
    exact j2 i hi
   ·show grep done k e=js.filterMap (fun j=>(grep m k e)[j]?)
    rw [j3]
    unfold grep
    rw [List.map_filterMap]
    simp only [List.getElem?_map]
   ·show seen.toList=js.filterMap (fun i=>((es.modify j fun x=>{ x with key:=kv k,val:=enc e })[i]?).map (·.born))
    rw [j4]
    apply lR
    intro i _
    have h7:=congrArg (fun l=>l[i]?) hborn
    simp only [List.getElem?_map,Array.getElem?_toList] at h7
    exact h7.symm)
end
end
section
open Go.Sort Go.Proofs
def Frz (L L' : List HP):Prop:=∀ ι h,Hp.disj ι h→Stars L ι h→Stars L' (Hp.a8 ι h) Hp.emp
theorem Frz.nil:Frz [] []:=fun _ _ _ _=>trivial
theorem rG {ι h:Hp} (hd:Hp.disj ι h) {b:Nat} {o:Obj} (hb:h b=some o):Hp.a8 ι h b=some o:=by
 unfold Hp.a8
 cases hi:ι b with
 | none=>exact hb
 | some x=>have:=hd b x hi;rw [hb] at this;cases this
theorem CV {ι h h2:Hp} (hs:Hp.sub h2 h):Hp.sub (Hp.a8 ι h2) (Hp.a8 ι h):=fun k o hk=>by
 unfold Hp.a8 at hk ⊢
 cases hi:ι k with
 | some x=>rw [hi] at hk;exact hk
 | none=>rw [hi] at hk;exact hs k o hk
theorem Eo {ι h h2:Hp} (hd:Hp.disj ι h) (hs:Hp.sub h2 h):Hp.disj ι h2:=fun k o hk=>by
 have h5:=hd k o hk
 cases h6:h2 k with
 | none=>rfl
 | some o2=>rw [hs k o2 h6] at h5;cases h5
theorem Frz.cons {p p' : HP} {L L' : List HP} (hp:∀ ι₀ ι h₁ h,Hp.disj ι h→Hp.sub h₁ h→p ι₀ h₁→p' (Hp.a8 ι h) Hp.emp) (hL:Frz L L'):Frz (p::L) (p'::L'):=by
 rintro ι h hd ⟨ι₀,h₁,h₂,a,b,c,d,e,f⟩
 exact ⟨Hp.a8 ι h,Hp.emp,Hp.emp,Hp.sub.refl _,Hp.a7 _,Hp.sub.refl _,Hp.sub.refl _,hp ι₀ ι h₁ h hd c e,(hL ι h₂ (Eo hd d) f).mono (CV d) (Hp.sub.refl _)⟩
abbrev encL (l:List Value):List Value:=l
theorem Frz.obj {b T n:Nat} {cs:List Value} {L L' : List HP} (hn:cs.length=n) (hL:Frz L L'):Frz (V.obj b T cs::L) (isl encL n (some ⟨b,0,none⟩) [cs]::L') :=
 Frz.cons (fun _ ι h₁ h hd hs hp=>by
  refine ⟨fun x hx=>by rw [List.mem_singleton.1 hx];exact hn,.inr ⟨b,0,cs.toArray,T,(0,0),rfl,rG hd (hs b _ hp),fun i v hv=>?_⟩⟩
  simpa using hv) hL
theorem Frz.osl {α:Type} {enc:α→List Value} {sz E:Nat} {ad:Option Addr} {cap:Nat} {xs:List α} {L L' : List HP} (hL:Frz L L'):Frz (V.osl enc sz E ad cap xs::L) (isl enc sz ad xs::L') :=
 Frz.cons (fun _ ι h₁ h hd hs hp=>by
  obtain ⟨h1,h2,h3,h4⟩:=hp
  refine ⟨h1,?_⟩
  rcases h4 with ⟨_,h5⟩|⟨g,cur,h5,h6,h7,h8⟩
  ·exact .inl (aP ab)
  ·refine .inr ⟨g,0,cur,E,(0,0),h5,rG hd (hs g _ h6),fun i v hv=>?_⟩
   rw [← h8,List.getElem?_take] at hv
   split at hv
   ·rw [cW]
    simpa using hv
   ·cases hv) hL
theorem Tri.d8 {P:Program} {f:FuncId} {E cap sz:Nat} {ad:Option Addr} {α:Type} {enc:α→List Value} {xs:List α} {Lc Lf:List HP} {fv:Value} (he:Enters P f) (hfr:Frz Lc Lf) (good:List α→Prop) (hg0:xs=[]→good [])
  (h0:xs.length=0→∀ w,Calls P f #[.slice ad 0 cap,fv] w fun e w'=>e=.returned (.tuple #[])∧w' = w)
  (h1:∀ blk w ι,Hp.sub ι (ga w)→ι blk=none→Stars Lf ι Hp.emp→Holds id w blk 0 (xs.flatMap enc).toArray→blk<w.heap.size →
   Calls P f #[.slice (some ⟨blk,0,none⟩) xs.length cap,fv] w fun e w'=>e=.returned (.tuple #[])∧∃ ys n os,ys.length=xs.length∧(∀ y∈ys,(enc y).length=sz)∧good ys∧w' = grow (Sort.putRow id (Sort.ahead w n) blk 0 (ys.flatMap enc).toArray) os) :
  Tri P f #[.slice ad xs.length cap,fv] (osl enc sz E ad cap xs::Lc) (fun v L'=>v=.tuple #[]∧∃ ys,good ys∧L' = osl enc sz E ad cap ys::Lc):=by
 refine ⟨he,fun θ R w s=>?_⟩
 by_cases hx:xs.length=0
 ·have e1:xs=[]:=aP hx
  subst e1
  refine (h0 rfl w).mono ?_
  rintro e w' ⟨rfl,rfl⟩
  exact ⟨_,_,rfl,⟨rfl,[],hg0 rfl,rfl⟩,s⟩
 obtain ⟨a1,a2,a3,a4⟩:=Sat.osl_parts (L:=Lc++R) s
 rcases a4 with ⟨rfl,rfl⟩|⟨g,cur,rfl,b1,b2,b3⟩
 ·omega
 have hb:=b3.own_heap
 have hfl:=dA a1
 have hrow:cur.toList.take (xs.flatMap enc).length=xs.flatMap enc:=by rw [hfl];exact b2
 obtain ⟨ok,ι,h,a,c1,c2,ι₀,h₁,h₂,d1,d2,d3,d4,d5,d6⟩:=b3
 have hig:ι g=none:=by
  cases hι:ι g with
  | none=>rfl
  | some o =>
   have h3:=a g o hι
   have h4:h g=some (.cells cur E (0,0)):=d3 g _ d5
   rw [h3] at h4
   cases h4
 obtain ⟨x1,x2,y1,y2,y3,y4,y5⟩:=Stars.split d6
 have hx1:Hp.sub x1 h:=y2.trans d4
 have hix:Hp.disj ι x1:=fun k o hk=>by
  have h5:=a k o hk
  cases h6:x1 k with
  | none=>rfl
  | some o2=>rw [hx1 k o2 h6] at h5;cases h5
 have hLc:Stars Lf (Hp.a8 ι x1) Hp.emp:=hfr ι x1 hix y4
 have hjs:Hp.sub (Hp.a8 ι x1) (ga w):=fun k o hk=>by
  unfold Hp.a8 at hk
  cases h6:ι k with
  | some o2=>rw [h6] at hk;exact c1 k o (by rw [h6];exact hk)
  | none=>rw [h6] at hk;exact c2 k o (hx1 k o (by simpa using hk))
 have hxg:Hp.a8 ι x1 g=none:=by
  unfold Hp.a8
  rw [hig]
  cases h6:x1 g with
  | none=>rfl
  | some o2 =>
   have h7:=d2 g _ d5
   rw [y2 g o2 h6] at h7
   cases h7
 have b3:Sat θ (own g (.cells cur E (0,0))::(Lc++R)) w:=⟨ok,ι,h,a,c1,c2,ι₀,h₁,h₂,d1,d2,d3,d4,d5,d6⟩
 refine (h1 g w (Hp.a8 ι x1) hjs hxg hLc (tr hb hrow) (Array.getElem?_eq_some_iff.1 hb).1).mono ?_
 rintro e w' ⟨rfl,ys,n,os,hl,hsz,hgood,rfl⟩
 refine ⟨_,_,rfl,⟨rfl,ys,hgood,rfl⟩,?_⟩
 have hfl2:=dA hsz
 have hle:xs.length*sz≤cap*sz:=bL _ a2
 refine Sat.osl_mk (L:=Lc++R) (Sat.d7 b3) hsz ab a3 ?_ ?_
 ·simp [putCells,b1]
 ·rw [← hfl2]
  exact oC (by rw [hfl2,hl,b1];exact hle)
theorem Tri.c7 {P:Program} {ρ:Go.Shelf.Ren} (S:SlLaysF.n6 P ρ) (S0:SlLaysF0.n6 P ρ) {E cap:Nat} {ad:Option Addr} {α:Type} [Inhabited α] {enc:α→Value} (h1:OneCell enc) {xs:List α} {Lc Lf:List HP} {g:Nat} {cb:Array Value} (cf:α→α→Int) (hO:SWO (ltOf cf))
  (he:Enters P (ρ.f 6)) (heg:Enters P g) (hfr:Frz Lc Lf) (hcmp:∀ x y:α,Tri P g (#[enc x,enc y]++cb) Lf (fun u _=>u=.int .i64 (cf x y))) (hsz:xs.length<4611686018427387904) :
  Tri P (ρ.f 6) #[.slice ad xs.length cap,.func (.func g) #[] cb] (osl (fun x=>[enc x]) 1 E ad cap xs::Lc) (fun v L'=>v=.tuple #[]∧∃ ys,gG cf xs ys∧L' = osl (fun x=>[enc x]) 1 E ad cap ys::Lc):=by
 refine Tri.d8 he hfr (gG cf xs) (fun h=>by subst h;exact ⟨List.Perm.refl _,List.Pairwise.nil⟩) ?_ ?_
 ·intro h0 w
  exact AnyF.slices_SortFunc_none S0 ad cap (.func (.func g) #[] cb) w
 ·intro blk w ι hi hb hL hH hblk
  have hc:=Any.slices_SortFunc S enc h1 cf hO g cb blk 0 cap xs.toArray w heg (fun m os dk _ x y=>Tri.a8 (hcmp x y) (nj hi hb) hL) (tu hH) hblk (by simpa using hsz)
  rw [show xs.toArray.size=xs.length by simp] at hc
  refine hc.mono ?_
  rintro e w' ⟨rfl,d',n,os,hp,hs,rfl⟩
  have hp2:d'.toList.Perm xs:=ky (by simpa using hp)
  have hds:d'.size=xs.length:=by have:=hp2.length_eq;simpa using this
  refine ⟨rfl,d'.toList,n,os,hp2.length_eq,fun _ _=>rfl,⟨hp2,?_⟩,?_⟩
  ·rw [← hds] at hs
   refine (iU hs).imp ?_
   intro a b hab
   simpa [ltOf] using hab
  ·unfold sortWorld
   rw [rt]
theorem Tri.d7 {P:Program} {ρ:Go.Shelf.Ren} (S0:SlLaysF0.n6 P ρ) {E cap sz:Nat} {ad:Option Addr} {α:Type} {enc:α→List Value} {L:List HP} {fv:Value} (he:Enters P (ρ.f 6)) :
  Tri P (ρ.f 6) #[.slice ad 0 cap,fv] (osl enc sz E ad cap []::L) (fun v L'=>v=.tuple #[]∧L' = osl enc sz E ad cap []::L):=by
 refine ⟨he,fun θ R w s=>(AnyF.slices_SortFunc_none S0 ad cap fv w).mono ?_⟩
 rintro e w' ⟨rfl,rfl⟩
 exact ⟨_,_,rfl,⟨rfl,rfl⟩,s⟩
end
end Go.V
