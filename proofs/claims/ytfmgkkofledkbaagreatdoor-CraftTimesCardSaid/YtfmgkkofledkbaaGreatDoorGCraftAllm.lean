/- Lemmas and contracts of functions, in the order: V24, V26, V27, V28. -/
import Derived.Test.YtfmgkkofledkbaaGreatDoorGCraftAlld
import Derived.Shelf.SlSortCmp.WholeK
import Derived.Shelf.SlSortCmp.Whole1
import Derived.Shelf.SlSortCmp.NoneTotal
import Derived.Test.YtfmgkkofledkbaaGreatDoorGCraftAlll
import Derived.Laws.CopyRow
import Derived.Test.YtfmgkkofledkbaaGreatDoorGCraftAllb
set_option linter.all false
namespace Go.V
open Go.Sort Go.Proofs
theorem Dj:∀ {a b:World},a.heap=b.heap→a.tape=b.tape→a.drawn=b.drawn→a.os=b.os→a.output=b.output→a=b:=by
 rintro ⟨_,_,_,_,_⟩ ⟨_,_,_,_,_⟩ h1 h2 h3 h4 h5
 cases h1;cases h2;cases h3;cases h4;cases h5;rfl
theorem Tri.a6 {P:Program} {f:FuncId} {args:Array Value} {L:List HP} {v:Value} (h:Tri P f args L (fun u _=>u=v)) {w:World} {ι:Hp} (hi:Hp.sub ι (el w)) (hs:Stars L ι Hp.emp) :
  Calls P f args w fun e w'=>e=.returned v∧∃ q os',w' = grow (w.drewN q) os':=by
 have hs2:Stars L (el w) Hp.emp:=hs.mono hi (Hp.sub.refl _)
 have s0:Sat ⟨w.tape,w.os,w.output,w.drawn⟩ (L++[tW w]) w:=⟨⟨rfl,rfl,rfl,Nat.le_refl _⟩,el w,Hp.emp,fun _ _ _=>rfl,Hp.sub.refl _,Hp.a6 _,hs2.snoc (Hp.sub.refl _)⟩
 refine (h.calls _ _ w s0).mono ?_
 rintro e w' ⟨u,L',rfl,rfl,s1⟩
 refine ⟨rfl,w'.drawn - w.drawn,w'.heap.extract w.heap.size w'.heap.size,?_⟩
 have s2:Sat ⟨w.tape,w.os,w.output,w.drawn⟩ (tW w::L') w':=s1.perm (List.perm_append_singleton _ _)
 obtain ⟨ok,ι',h,a,b1,c,ι₀,h₁,h₂,d1,d2,d3,d4,d5,d6⟩:=s2
 have hk:∀ k o,w.heap[k]? = some o→w'.heap[k]? = some o:=fun k o hx=>b1 k o (d1 k o (d5 k o hx))
 have hsz:w.heap.size≤w'.heap.size:=by
  rcases Nat.lt_or_ge w'.heap.size w.heap.size with hlt|hge
  ·have h1:=hk w'.heap.size _ (Array.getElem?_eq_getElem hlt)
   rw [Array.getElem?_eq_none (Nat.le_refl _)] at h1
   cases h1
  ·exact hge
 have hdr:w.drawn≤w'.drawn:=ok.drawn
 refine Dj ?_ ok.tape ?_ ok.os ok.output
 ·show w'.heap=w.heap++w'.heap.extract w.heap.size w'.heap.size
  apply Array.ext_getElem?
  intro k
  by_cases hk2:k<w.heap.size
  ·rw [Array.getElem?_append_left hk2,Array.getElem?_eq_getElem hk2]
   exact hk k _ (Array.getElem?_eq_getElem hk2)
  ·rw [Array.getElem?_append_right ab,Array.getElem?_extract]
   by_cases hk3:k<w'.heap.size
   ·rw [if_pos ab,show w.heap.size+(k - w.heap.size)=k by omega]
   ·rw [if_neg ab,Array.getElem?_eq_none ab]
 ·show w'.drawn=w.drawn+(w'.drawn - w.drawn)
  omega
theorem lV {α:Type} [Inhabited α] {enc:α→Value} {w:World} {ι:Hp} {blk off m:Nat} {d:Array α} {os:Array Obj} (hi:Hp.sub ι (el w)) (hb:ι blk=none):Hp.sub ι (el (grow (Sort.putRow enc (Sort.ahead w m) blk off d) os)):=by
 intro k o hk
 have hx:w.heap[k]? = some o:=hi k o hk
 have hne:k≠blk:=by rintro rfl;rw [hb] at hk;cases hk
 have hlt:k<w.heap.size:=(Array.getElem?_eq_some_iff.1 hx).1
 show (w.heap.modify blk (onCells (putCells enc off d))++os)[k]? = _
 rw [Array.getElem?_append_left (by simpa using hlt),Array.getElem?_modify,if_neg (fun e=>hne e.symm),hx]
theorem nB {vs:List Value} {cur:Array Value} (hc:vs.length≤cur.size):(putCells id 0 vs.toArray cur).toList.take vs.length=vs:=by
 apply List.ext_getElem?
 intro i
 by_cases hi:i<vs.length
 ·have h2:i<cur.size:=ab
  rw [List.getElem?_take,if_pos hi]
  simp [putCells,hi,h2]
 ·rw [List.getElem?_take,if_neg hi]
  simp
  omega
theorem sM {g E:Nat} {cur:Array Value} {vs:List Value} {w:World} (hb:w.heap[g]? = some (.cells cur E (0,0))) (ht:cur.toList.take vs.length=vs):Holds id w g 0 vs.toArray:=by
 intro j hj
 have hj' : j<vs.length:=by simpa using hj
 refine ⟨?_,by simp [World.frozen?,hb]⟩
 rw [Nat.zero_add,cS hb]
 have h:(cur.toList.take vs.length)[j]? = vs[j]?:=by rw [ht]
 rw [List.getElem?_take,if_pos hj'] at h
 simp [hj'] at h
 simp [hj',h]
theorem Sat.c9 {θ:Th} {g E:Nat} {cur:Array Value} {R:List HP} {w:World} {d:Array Value} {n:Nat} {os:Array Obj} (s:Sat θ (own g (.cells cur E (0,0))::R) w) :
  Sat θ (own g (.cells (putCells id 0 d cur) E (0,0))::R) (grow (Sort.putRow id (Sort.ahead w n) g 0 d) os):=by
 have hb:=s.own_heap
 have hlt:g<w.heap.size:=(Array.getElem?_eq_some_iff.1 hb).1
 refine s.update ⟨s.1.tape,s.1.os,s.1.output,Nat.le_trans s.1.drawn (Nat.le_add_right _ _)⟩ ?_ ?_
 ·show (w.heap.modify g (onCells (putCells id 0 d))++os)[g]? = _
  rw [Array.getElem?_append_left (by simpa using hlt),Array.getElem?_modify,if_pos rfl,hb]
  rfl
 ·intro k x hk hx
  have hklt:k<w.heap.size:=(Array.getElem?_eq_some_iff.1 hx).1
  show (w.heap.modify g (onCells (putCells id 0 d))++os)[k]? = _
  rw [Array.getElem?_append_left (by simpa using hklt),Array.getElem?_modify,if_neg (fun e=>hk e.symm),hx]
theorem Tri.a7 {P:Program} {f:FuncId} {E cap sz:Nat} {ad:Option Addr} {α:Type} {enc:α→List Value} {xs:List α} {Lc:List HP} {fv:Value} (he:Enters P f) (hpers:∀ ι h,Stars Lc ι h→Stars Lc ι Hp.emp) (good:List α→Prop) (hg0:xs=[]→good [])
  (h0:xs.length=0→∀ w,Calls P f #[.slice ad 0 cap,fv] w fun e w'=>e=.returned (.tuple #[])∧w' = w)
  (h1:∀ blk w ι,Hp.sub ι (el w)→ι blk=none→Stars Lc ι Hp.emp→Holds id w blk 0 (xs.flatMap enc).toArray→blk<w.heap.size →
   Calls P f #[.slice (some ⟨blk,0,none⟩) xs.length cap,fv] w fun e w'=>e=.returned (.tuple #[])∧∃ ys n os,ys.length=xs.length∧(∀ y∈ys,(enc y).length=sz)∧good ys∧w' = grow (Sort.putRow id (Sort.ahead w n) blk 0 (ys.flatMap enc).toArray) os) :
  Tri P f #[.slice ad xs.length cap,fv] (osl enc sz E ad cap xs::Lc) (fun v L'=>v=.tuple #[]∧∃ ys,good ys∧L' = osl enc sz E ad cap ys::Lc):=by
 refine ⟨he,fun θ R w s=>?_⟩
 by_cases hx:xs.length=0
 ·have e1:xs=[]:=List.eq_nil_of_length_eq_zero hx
  subst e1
  refine (h0 rfl w).mono ?_
  rintro e w' ⟨rfl,rfl⟩
  exact ⟨_,_,rfl,⟨rfl,[],hg0 rfl,rfl⟩,s⟩
 obtain ⟨a1,a2,a3,a4⟩:=Sat.osl_parts (L:=Lc++R) s
 rcases a4 with ⟨rfl,rfl⟩|⟨g,cur,rfl,b1,b2,b3⟩
 ·omega
 have hb:=b3.own_heap
 have hfl:=cA a1
 have hrow:cur.toList.take (xs.flatMap enc).length=xs.flatMap enc:=by rw [hfl];exact b2
 obtain ⟨ok,ι,h,a,c1,c2,ι₀,h₁,h₂,d1,d2,d3,d4,d5,d6⟩:=b3
 have hig:ι g=none:=by
  cases hι:ι g with
  | none=>rfl
  | some o =>
   have h3:=a g o hι
   have h4:h g=some (.cells cur E (0,0)):=d3 g _ d5
   rw [h3] at h4
   cases h4
 have hLc:Stars Lc ι Hp.emp:=by
  obtain ⟨x1,x2,y1,y2,y3,y4,y5⟩:=Stars.split d6
  exact hpers ι x1 y4
 have b3:Sat θ (own g (.cells cur E (0,0))::(Lc++R)) w:=⟨ok,ι,h,a,c1,c2,ι₀,h₁,h₂,d1,d2,d3,d4,d5,d6⟩
 refine (h1 g w ι c1 hig hLc (sM hb hrow) (Array.getElem?_eq_some_iff.1 hb).1).mono ?_
 rintro e w' ⟨rfl,ys,n,os,hl,hsz,hgood,rfl⟩
 refine ⟨_,_,rfl,⟨rfl,ys,hgood,rfl⟩,?_⟩
 have hfl2:=cA hsz
 have hle:xs.length*sz≤cap*sz:=Nat.mul_le_mul_right _ a2
 refine Sat.osl_mk (L:=Lc++R) (Sat.c9 b3) hsz ab a3 ?_ ?_
 ·simp [putCells,b1]
 ·rw [← hfl2]
  exact nB (by rw [hfl2,hl,b1];exact hle)
theorem sO {α:Type} [Inhabited α] {enc:α→Value} {w:World} {g:Nat} {xs:List α} (h:Holds id w g 0 (xs.flatMap fun x=>[enc x]).toArray):Holds enc w g 0 xs.toArray:=by
 intro j hj
 have hj' : j<xs.length:=by simpa using hj
 have hf:(xs.flatMap fun x=>[enc x])=xs.map enc:=lr _ xs
 rw [hf] at h
 have:=h j (by simpa using hj')
 simpa [hj'] using this
theorem qE {α:Type} [Inhabited α] {enc:α→Value} {w:World} {g:Nat} {d:Array α}:Sort.putRow enc w g 0 d=Sort.putRow id w g 0 (d.toList.flatMap fun x=>[enc x]).toArray:=by
 have hf:∀ l:List α,(l.flatMap fun x=>[enc x])=l.map enc:=fun l=>lr _ l
 rw [hf]
 unfold Sort.putRow
 congr 1
 funext c
 unfold putCells
 apply Array.ext
 ·simp
 ·intro i h1 h2
  simp only [Array.getElem_mapIdx,List.size_toArray,List.length_map,Array.length_toList,Nat.zero_add,Nat.sub_zero,id_eq]
  split
  ·rename_i hlt
   simp [hlt.2]
  ·rfl
theorem jg {α:Type} [Inhabited α] {xs:List α} {d' : Array α} (h:PermIn 0 xs.toArray.size xs.toArray d'):d'.toList.Perm xs:=by
 obtain ⟨h1,_,h3⟩:=h
 have e1:(xs.toArray.extract 0 xs.toArray.size)=xs.toArray:=by simp
 have e2:(d'.extract 0 xs.toArray.size)=d':=by rw [← h1];simp
 rw [e1,e2] at h3
 simpa using h3
theorem gE {α:Type} [Inhabited α] {lt:α→α→Bool} {d:Array α} (h:SortedIn lt 0 d.size d):d.toList.Pairwise (fun a b=>lt b a=false):=by
 rw [List.pairwise_iff_getElem]
 intro i j hi hj hij
 have:=h i j (Nat.zero_le _) hij (by simpa using hj)
 have hi' : i<d.size:=by simpa using hi
 have hj' : j<d.size:=by simpa using hj
 simpa [hi',hj'] using this
def eT {α:Type} (cf:α→α→Int) (xs ys:List α):Prop:=ys.Perm xs∧ys.Pairwise (fun a b=>¬cf b a<0)
theorem Tri.c7 {P:Program} {ρ:Go.Shelf.Ren} (S:SlLaysF.n6 P ρ) (S0:SlLaysF0.n6 P ρ) {E cap:Nat} {ad:Option Addr} {α:Type} [Inhabited α] {enc:α→Value} (h1:OneCell enc) {xs:List α} {Lc:List HP} {g:Nat} {cb:Array Value} (cf:α→α→Int) (hO:SWO (ltOf cf))
  (he:Enters P (ρ.f 6)) (heg:Enters P g) (hpers:∀ ι h,Stars Lc ι h→Stars Lc ι Hp.emp) (hcmp:∀ x y:α,Tri P g (#[enc x,enc y]++cb) Lc (fun u _=>u=.int .i64 (cf x y))) (hsz:xs.length<4611686018427387904) :
  Tri P (ρ.f 6) #[.slice ad xs.length cap,.func (.func g) #[] cb] (osl (fun x=>[enc x]) 1 E ad cap xs::Lc) (fun v L'=>v=.tuple #[]∧∃ ys,eT cf xs ys∧L' = osl (fun x=>[enc x]) 1 E ad cap ys::Lc):=by
 refine Tri.a7 he hpers (eT cf xs) (fun h=>by subst h;exact ⟨List.Perm.refl _,List.Pairwise.nil⟩) ?_ ?_
 ·intro h0 w
  exact AnyF.slices_SortFunc_none S0 ad cap (.func (.func g) #[] cb) w
 ·intro blk w ι hi hb hL hH hblk
  have hc:=Any.slices_SortFunc S enc h1 cf hO g cb blk 0 cap xs.toArray w heg (fun m os dk _ x y=>Tri.a6 (hcmp x y) (lV hi hb) hL) (sO hH) hblk (by simpa using hsz)
  rw [show xs.toArray.size=xs.length by simp] at hc
  refine hc.mono ?_
  rintro e w' ⟨rfl,d',n,os,hp,hs,rfl⟩
  have hp2:d'.toList.Perm xs:=jg (by simpa using hp)
  have hds:d'.size=xs.length:=by have:=hp2.length_eq;simpa using this
  refine ⟨rfl,d'.toList,n,os,hp2.length_eq,fun _ _=>rfl,⟨hp2,?_⟩,?_⟩
  ·rw [← hds] at hs
   refine (gE hs).imp ?_
   intro a b hab
   simpa [ltOf] using hab
  ·unfold sortWorld
   rw [qE]
theorem vx {α:Type} [Inhabited α] {enc:α→List Value} {k:Nat} (hk:∀ x,(enc x).length=k) (xs:List α):flatK enc k xs.toArray=(xs.flatMap enc).toArray:=by
 have hl:(xs.flatMap enc).length=xs.length*k:=cA (fun x _=>hk x)
 apply Array.ext_getElem?
 intro i
 by_cases h1:i<xs.length*k
 ·have hk0:0<k:=by
   rcases Nat.eq_zero_or_pos k with h|h
   ·subst h;simp at h1
   ·exact h
  have hj:i / k<xs.length:=Nat.div_lt_of_lt_mul (by rw [Nat.mul_comm];exact h1)
  have ho:i % k<k:=Nat.mod_lt _ hk0
  have h2:=mI (xs:=xs) (fun x _=>hk x) hj ho
  rw [show i / k*k+i % k=i from Nat.div_add_mod' i k] at h2
  have h3:=get_flatK enc k xs.toArray i (by simpa using h1)
  have h4:i<(flatK enc k xs.toArray).size:=by rw [size_flatK];simpa using h1
  rw [getElem!_pos _ i h4] at h3
  rw [Array.getElem?_eq_getElem h4,h3,List.getElem?_toArray,h2,List.getElem?_eq_getElem (by rw [hk];exact ho)]
  simp [hj,hk,ho]
 ·rw [Array.getElem?_eq_none (by rw [size_flatK];simpa using h1),List.getElem?_toArray,List.getElem?_eq_none ab]
theorem Tri.c6 {P:Program} {ρ:Go.Shelf.Ren} (S:SlLaysF0.n6 P ρ) {k E cap:Nat} (aE:∀ w,(isAgg (ρ.t 24)).run P w=.ok true w) (zE:∀ w,(Go.sizeOf (ρ.t 24)).run P w=.ok k w) {ad:Option Addr} {α:Type} [Inhabited α] {enc:α→List Value} (hk:∀ x,(enc x).length=k) (h1:∀ x,∀ v∈enc x,v.oneCell' = true) {xs:List α} {Lc:List HP} {g:Nat} {cb:Array Value} (cf:α→α→Int) (hO:SWO (ltOf cf))
  (he:Enters P (ρ.f 6)) (heg:Enters P g) (hpers:∀ ι h,Stars Lc ι h→Stars Lc ι Hp.emp) (hcmp:∀ x y:α,Tri P g (#[.agg (enc x).toArray,.agg (enc y).toArray]++cb) Lc (fun u _=>u=.int .i64 (cf x y))) (hsz:xs.length<4611686018427387904) :
  Tri P (ρ.f 6) #[.slice ad xs.length cap,.func (.func g) #[] cb] (osl enc k E ad cap xs::Lc) (fun v L'=>v=.tuple #[]∧∃ ys,eT cf xs ys∧L' = osl enc k E ad cap ys::Lc):=by
 refine Tri.a7 he hpers (eT cf xs) (fun h=>by subst h;exact ⟨List.Perm.refl _,List.Pairwise.nil⟩) ?_ ?_
 ·intro h0 w
  exact AnyF.slices_SortFunc_none S ad cap (.func (.func g) #[] cb) w
 ·intro blk w ι hi hb hL hH hblk
  have hc:=AnyQ.slices_SortFunc S k aE zE enc hk h1 cf hO g cb blk 0 cap xs.toArray w heg (fun m os dk _ x y=>Tri.a6 (hcmp x y) (lV hi hb) hL) (by unfold HoldsK;rw [vx hk];exact hH) hblk (by simpa using hsz)
  rw [show xs.toArray.size=xs.length by simp] at hc
  refine hc.mono ?_
  rintro e w' ⟨rfl,d',n,os,hp,hs,rfl⟩
  have hp2:d'.toList.Perm xs:=jg (by simpa using hp)
  have hds:d'.size=xs.length:=by have:=hp2.length_eq;simpa using this
  refine ⟨rfl,d'.toList,n,os,hp2.length_eq,fun y _=>hk y,⟨hp2,?_⟩,?_⟩
  ·rw [← hds] at hs
   refine (gE hs).imp ?_
   intro a b hab
   simpa [ltOf] using hab
  ·unfold sortWorldK putRowK
   have:=vx hk d'.toList
   simp only [Array.toArray_toList] at this
   rw [this]
theorem Ent.g9 {α β:Type} {f:α→β} {enc:β→List Value} {sz E:Nat} {ad:Option Addr} {cap:Nat} {xs:List α} {L:List HP}:Ent (osl enc sz E ad cap (xs.map f)::L) (osl (fun x=>enc (f x)) sz E ad cap xs::L):=fun θ R w s=>by
 obtain ⟨ok,ι,h,a,b1,c,ι₀,h₁,h₂,d1,d2,d3,d4,⟨e1,e2,e3,e4⟩,d6⟩:=s
 refine ⟨ok,ι,h,a,b1,c,ι₀,h₁,h₂,d1,d2,d3,d4,⟨fun x hx=>e1 _ (List.mem_map_of_mem hx),by simpa using e2,e3,?_⟩,d6⟩
 rcases e4 with e4|⟨g,cur,f1,f2,f3,f4⟩
 ·exact .inl e4
 ·refine .inr ⟨g,cur,f1,f2,f3,?_⟩
  rw [List.length_map] at f4
  rw [f4,List.flatMap_map]
theorem Ent.g8 {α β:Type} {f:α→β} {enc:β→List Value} {sz E:Nat} {ad:Option Addr} {cap:Nat} {xs:List α} {L:List HP}:Ent (osl (fun x=>enc (f x)) sz E ad cap xs::L) (osl enc sz E ad cap (xs.map f)::L):=fun θ R w s=>by
 obtain ⟨ok,ι,h,a,b1,c,ι₀,h₁,h₂,d1,d2,d3,d4,⟨e1,e2,e3,e4⟩,d6⟩:=s
 refine ⟨ok,ι,h,a,b1,c,ι₀,h₁,h₂,d1,d2,d3,d4,⟨fun y hy=>?_,by simpa using e2,e3,?_⟩,d6⟩
 ·obtain ⟨x,hx,rfl⟩:=List.mem_map.1 hy
  exact e1 x hx
 rcases e4 with e4|⟨g,cur,f1,f2,f3,f4⟩
 ·exact .inl e4
 ·refine .inr ⟨g,cur,f1,f2,f3,?_⟩
  rw [List.length_map,f4,List.flatMap_map]
theorem Ent.j0 {α:Type} {enc:α→List Value} {sz E:Nat} {ad:Option Addr} {cap:Nat} {xs:List α} {L:List HP} (n:Nat):Ent (osl enc sz E ad cap xs::L) (osl enc sz E ad cap (xs.take n)::L):=fun θ R w s=>by
 obtain ⟨ok,ι,h,a,b1,c,ι₀,h₁,h₂,d1,d2,d3,d4,⟨e1,e2,e3,e4⟩,d6⟩:=s
 refine ⟨ok,ι,h,a,b1,c,ι₀,h₁,h₂,d1,d2,d3,d4,⟨fun x hx=>e1 x (List.mem_of_mem_take hx),by rw [List.length_take];omega,e3,?_⟩,d6⟩
 rcases e4 with e4|⟨g,cur,f1,f2,f3,f4⟩
 ·exact .inl e4
 ·refine .inr ⟨g,cur,f1,f2,f3,?_⟩
  have h1:xs.flatMap enc=(xs.take n).flatMap enc++(xs.drop n).flatMap enc:=by rw [← List.flatMap_append,List.take_append_drop]
  have h2:=cA (xs:=xs.take n) (fun x hx=>e1 x (List.mem_of_mem_take hx))
  have h3:(xs.take n).length≤xs.length:=by rw [List.length_take];omega
  have h4:(xs.take n).length*sz≤xs.length*sz:=Nat.mul_le_mul_right _ h3
  have h5:(cur.toList.take (xs.length*sz)).take ((xs.take n).length*sz)=cur.toList.take ((xs.take n).length*sz):=by rw [List.take_take,Nat.min_eq_left h4]
  rw [← h5,f4,h1,← h2,List.take_left]
end Go.V
namespace Go.V
section
variable {P:Program} {env:Env} {L:List HP} {ty:TypeId}
theorem Ev.e7 {t yt:TypeId} {x y:Operand} {a b:ByteArray} (hx:evE env x=some (.string a)) (hy:evE env y=some (.string b)) (h:a.size+b.size≤1000000000):Ev P L env (.binOp .add t x y yt) ty (.string (a++b)) :=
 Ev.mk (fun _ _ _ w ea _ _ _ _ _=>by
  have hn:¬((a.size+b.size:Nat):Int)>IntKind.i64.max:=by simp [IntKind.max,IntKind.bits];omega
  simp only [execOp,ao ea hx,ao ea hy,binOp,Op.stringOp,if_neg hn]
  rfl)
theorem Ef.k6 {t t2:TypeId} {x y:Operand} {α:Type} {enc:α→List Value} {ad ad2:Option Addr} {n c n2 c2 sz E bb cap:Nat} {xs ys:List α} {z:List Value} {R1:List HP} [ht:TySl P t E sz bb z] [hp:PickOsl L ad α enc sz E cap xs R1] [hq:Rds R1 ad2 α enc sz ys]
  (hx:evE env x=some (.slice ad n c)) (hy:evE env y=some (.slice ad2 n2 c2)) (hn:n=xs.length) (hn2:n2=ys.length) (hl:ys.length=xs.length) (h1:∀ e∈ys,∀ u∈enc e,u.oneCell' = true)
  : Ef P L env (.call { callee:=.builtin .copy,args:=#[x,y],argTypes:=#[t,t2] }) ty (fun v L'=>v=.int .i64 (n:Int)∧L' = osl enc sz E ad cap ys::R1) :=
 Ef.val (fun θ R a w ea s dst pos af g=>by
  subst hn hn2
  have s1:=s.perm (hp.perm.append_right R)
  obtain ⟨g1,g2⟩:=hq.rd θ R w s1.tail
  obtain ⟨ii,z0,i1,i2,i3,i4,i5⟩:=ht.parts
  obtain ⟨p1,p2,p3,p4⟩:=Sat.osl_parts s1
  have h1' : ∀ u∈ys.flatMap enc,u.oneCell' = true:=fun u hu=>by
   obtain ⟨e,he,hu⟩:=List.mem_flatMap.1 hu
   exact h1 e he u hu
  have hfl:=cA g1
  have hld:(Builtin.firstCells sz ys.length (.slice ad2 ys.length c2)).run P w=.ok (ys.flatMap enc).toArray w:=by
   rcases ad2 with _|a2
   ·rcases g2 with g2|⟨a,ha,_⟩
    ·subst g2;rfl
    ·cases ha
   ·have hnews:∀ j u,(ys.flatMap enc)[j]? = some u→w.cell? (a2.add j)=some u:=by
     rcases g2 with g2|⟨a,ha,g3⟩
     ·subst g2;simp
     ·cases ha;exact g3
    have:=run_loadCells_list (P:=P) w a2 (ys.flatMap enc) hnews
    rw [hfl] at this
    exact this
  have hmin:Nat.min ys.length xs.length=ys.length:=by rw [hl];exact Nat.min_self _
  rcases p4 with ⟨rfl,rfl⟩|⟨gb,cur,rfl,f1,f2,f3⟩
  ·have hx0:xs=[]:=List.eq_nil_of_length_eq_zero ab
   have hy0:ys=[]:=List.eq_nil_of_length_eq_zero ab
   subst hx0 hy0
   refine ⟨.int .i64 0,w,_,?_,⟨rfl,rfl⟩,s1⟩
   simp only [List.length_nil] at hld hx hy hmin
   simp [execOp,resolve,invoke,builtin,ao ea hx,ao ea hy,Builtin.copy_,run_underlying ht.under,sizeOf,typeInfo,i1,i4,Builtin.lenOf,hld,goInt]
  ·have hb:w.heap[gb]? = some (.cells cur E (0,0)):=f3.own_heap
   have hcap:=Nat.mul_le_mul_right sz p2
   obtain ⟨vs,hvs⟩:∃ vs,vs=ys.flatMap enc:=⟨_,rfl⟩
   rw [← hvs] at hld h1' hfl
   rw [hl] at hld hfl hmin
   have hst:=run_storeCells_at P gb 0 E vs 0 cur w hb ab h1'
   simp only [Nat.zero_add,List.take_zero,List.nil_append] at hst
   refine ⟨.int .i64 (xs.length:Int),w.setRow gb (vs++cur.toList.drop vs.length).toArray,_,?_,⟨rfl,rfl⟩,?_⟩
   ·rw [hl] at hy
    simp [execOp,resolve,invoke,builtin,ao ea hx,ao ea hy,Builtin.copy_,run_underlying ht.under,sizeOf,typeInfo,i1,i4,Builtin.lenOf,hld,hst,goInt]
   ·have s3:Sat θ (own gb (.cells (vs++cur.toList.drop vs.length).toArray E (0,0))::(R1++R)) (w.setRow gb (vs++cur.toList.drop vs.length).toArray) :=
     Sat.update f3 ⟨s.1.tape,s.1.os,s.1.output,s.1.drawn⟩ (setRow_heap w gb _ _ E _ hb) (fun k x hk hx=>by rw [setRow_other w gb k _ hk];exact hx)
    refine Sat.osl_mk (L:=R1++R) s3 g1 ab p3 ?_ ?_
    ·simp;omega
    ·rw [hl,← hfl,← hvs]
     exact List.take_left)
theorem Ef.j9 {t:TypeId} {x:Operand} {α:Type} {enc:α→List Value} {ad:Option Addr} {n c i sz E bb cap:Nat} {xs:List α} {z:List Value} {R1:List HP} [ht:TySl P t E sz bb z] [hp:PickOsl L ad α enc sz E cap xs R1]
  (hx:evE env x=some (.slice (advA ad cap sz i) n c)) (hi:i+n=xs.length) (h1:∀ u∈z,u.oneCell' = true)
  : Ef P L env (.call { callee:=.builtin .clear,args:=#[x],argTypes:=#[t] }) ty (fun v L'=>v=.tuple #[]∧L' = osl enc sz E ad cap (xs.take i)::R1) :=
 Ef.val (fun θ R a w ea s dst pos af g=>by
  have s1:=s.perm (hp.perm.append_right R)
  obtain ⟨ii,z0,i1,i2,i3,i4,i5⟩:=ht.parts
  have stake:Sat θ (osl enc sz E ad cap (xs.take i)::R1++R) w:=Ent.j0 i θ R w s1
  by_cases hn:n=0
  ·subst hn
   refine ⟨.tuple #[],w,_,?_,⟨rfl,rfl⟩,stake⟩
   cases hd:advA ad cap sz i with
   | none=>rw [hd] at hx;simp [execOp,resolve,invoke,builtin,ao ea hx,Builtin.clear_,run_underlying ht.under]
   | some d=>rw [hd] at hx;simp [execOp,resolve,invoke,builtin,ao ea hx,Builtin.clear_,run_underlying ht.under]
  obtain ⟨p1,p2,p3,p4⟩:=Sat.osl_parts s1
  rcases p4 with ⟨rfl,rfl⟩|⟨gb,cur,rfl,f1,f2,f3⟩
  ·omega
  have hb:w.heap[gb]? = some (.cells cur E (0,0)):=f3.own_heap
  have hcap:=Nat.mul_le_mul_right sz p2
  have had:advA (some ⟨gb,0,none⟩) cap sz i=some ⟨gb,i*sz,none⟩:=by
   unfold advA
   rw [if_neg ab]
   simp [dY]
  rw [had] at hx
  have hzs:z0.cells.size=sz:=by rw [← ht.zlen,← i3];simp
  obtain ⟨vs,hvs⟩:∃ vs,vs=(Builtin.zeroCells z0.cells n).toList:=⟨_,rfl⟩
  have hvl:vs.length=n*sz:=by rw [hvs,Array.length_toList,size_zeroCells,hzs]
  have hv1:∀ u∈vs,u.oneCell' = true:=by
   intro u hu
   rw [hvs] at hu
   simp only [Builtin.zeroCells,Array.toList_map,List.mem_map,Array.toList_range,List.mem_range] at hu
   obtain ⟨k,hk,rfl⟩:=hu
   have hpos:0<z0.cells.size:=by rw [hzs];exact ht.pos
   have hlt:k % z0.cells.size<z0.cells.size:=Nat.mod_lt _ hpos
   refine h1 _ ?_
   rw [← i3,getElem!_pos z0.cells _ hlt]
   exact Array.mem_toList_iff.2 (Array.getElem_mem hlt)
  have hmul:i*sz+n*sz=xs.length*sz:=by rw [← Nat.add_mul,hi]
  have hst:=run_storeCells_at P gb (i*sz) E vs 0 cur w hb (by rw [hvl];omega) hv1
  simp only [Nat.add_zero] at hst
  refine ⟨.tuple #[],w.setRow gb (cur.toList.take (i*sz)++vs++cur.toList.drop (i*sz+vs.length)).toArray,_,?_,⟨rfl,rfl⟩,?_⟩
  ·obtain ⟨m,rfl⟩:∃ m,n=m+1:=⟨n - 1,ab⟩
   simp [execOp,resolve,invoke,builtin,ao ea hx,Builtin.clear_,run_underlying ht.under,zeroValue,typeInfo,i1,i2,← hvs,hst]
  ·have s3:Sat θ (own gb (.cells (cur.toList.take (i*sz)++vs++cur.toList.drop (i*sz+vs.length)).toArray E (0,0))::(R1++R)) (w.setRow gb (cur.toList.take (i*sz)++vs++cur.toList.drop (i*sz+vs.length)).toArray) :=
    Sat.update f3 ⟨s.1.tape,s.1.os,s.1.output,s.1.drawn⟩ (setRow_heap w gb _ _ E _ hb) (fun k x hk hx=>by rw [setRow_other w gb k _ hk];exact hx)
   have htl:(xs.take i).length=i:=by rw [List.length_take];omega
   refine Sat.osl_mk (L:=R1++R) s3 (fun x hx=>p1 x (List.mem_of_mem_take hx)) ab p3 ?_ ?_
   ·simp;omega
   ·have hfl2:=cA (xs:=xs.take i) (fun x hx=>p1 x (List.mem_of_mem_take hx))
    have hl2:(cur.toList.take (i*sz)).length=i*sz:=by simp;omega
    have h5:(cur.toList.take (xs.length*sz)).take (i*sz)=cur.toList.take (i*sz):=by rw [List.take_take,Nat.min_eq_left ab]
    have h6:xs.flatMap enc=(xs.take i).flatMap enc++(xs.drop i).flatMap enc:=by rw [← List.flatMap_append,List.take_append_drop]
    rw [htl,List.append_assoc]
    simp only
    rw [List.take_append_of_le_length ab,List.take_of_length_le ab,← h5,f2,h6]
    rw [htl] at hfl2
    rw [← hfl2]
    exact List.take_left)
end
end Go.V
namespace Go.V
theorem kB {α β:Type} {f g:α→Option β}:∀ {l:List α},(∀ x∈l,f x=g x)→l.filterMap f=l.filterMap g
 | [],_=>rfl
 | a::l,h=>by simp only [List.filterMap_cons,h a List.mem_cons_self,kB (fun x hx=>h x (List.mem_cons_of_mem _ hx))]
section
variable {P:Program} {env:Env} {L:List HP} {ty:TypeId} {κ α:Type}
theorem Ef.g9 {f:FuncId} {x:Operand} {ats:Array TypeId} {t:TypeId} {b:Nat} {kv:κ→Value} {enc:α→Value} {m:List (κ×α)} {Rest:List HP} (hf:IsMapClone P f) [hp:PickG L b κ α kv enc m Rest] (hx:evE env x=some (.iface t (.map (some b)))) :
  Ef P L env (.call { callee:=.value (.func f),args:=#[x],argTypes:=ats }) ty (fun v L'=>∃ b',v=.iface t (.map (some b'))∧L' = gmap kv enc b' m::gmap kv enc b m::Rest) :=
 Ef.val (fun θ R ρ w ea s dst pos af g=>by
  have s1:Sat θ (gmap kv enc b m::(Rest++R)) w:=s.perm (hp.perm.append_right R)
  obtain ⟨es,clock,h1,h2,h3,h4,h5,s2⟩:=Sat.gmap_parts s1
  have hb:=s2.own_heap
  refine ⟨_,w.alloc (.map es clock),_,?_,⟨w.heap.size,rfl,rfl⟩,?_⟩
  ·have hargs:#[x].map ρ=#[.iface t (.map (some b))]:=by simp [ao ea hx]
   have hfn:ρ (.func f)=.func (.func f) #[] #[]:=ea _ _ rfl
   simp [execOp,resolve,Deferred.ofValue,invoke,hfn,ao ea hx,hf.run,rC t hb,Result.andThen]
  ·have s3:=s2.alloc (o:=.map es clock)
   have s4:=Sat.a8 s3 h1 h2 h3 h4 h5
   have s5:=s4.perm (List.Perm.swap _ _ _)
   have s6:=Sat.a8 s5 h1 h2 h3 h4 h5
   exact s6.perm (List.Perm.swap _ _ _))
variable [DecidableEq κ]
def grep (m:List (κ×α)) (k:κ) (a:α):List (κ×α):=m.map fun p=>if p.1=k then (k,a) else p
theorem sR (m:List (κ×α)) (k:κ) (a:α):(grep m k a).map (·.1)=m.map (·.1):=by
 unfold grep
 rw [List.map_map]
 apply List.map_congr_left
 intro p _
 simp only [Function.comp]
 split
 ·rename_i h;exact h.symm
 ·rfl
theorem DQ (m:List (κ×α)) (k:κ) (a:α):(grep m k a).length=m.length:=by simp [grep]
theorem Ef.k7 {t:TypeId} {x y z' : Operand} {b r K E:Nat} {z v kval:Value} {kv:κ→Value} {enc:α→Value} {m done:List (κ×α)} {Rest:List HP} {k:κ} (e:α) [ht:TyG P t K E z] [hk:KeyT P K kv] [hp:PickIt L r κ α kv enc b m done Rest] (hx:evE env x=some (.map (some b))) (hy:evE env y=some kval) (hz:evE env z' = some v) [hkv:KeyVal kv kval k] (hv:v=enc e) (hin:k∈m.map (·.1))
  : Ef P L env (.mapUpdate t x y z') ty (fun _ L'=>L' = dd kv enc b (grep m k e) r (grep done k e)::Rest) :=
 Ef.skip (fun θ R a w ea s dst pos af g=>by
  subst hv;obtain rfl:=hkv.eq
  obtain ⟨⟨es,clock,seen,js⟩,⟨e1,e2,e3,e4,e5,j1,j2,j3,j4⟩,s2⟩:=(s.perm (hp.perm.append_right R)).it_parts
  dsimp only at e1 e3 e4 e5 j1 j2 j3 j4 s2
  have hb:=s2.own_heap
  have hf:=mK (P:=P) (K:=K) k w e1
  have hget:(getObj b).run P w=.ok (.map es clock) w:=by simp [getObj,Sem.run,hb]
  cases hj:m.findIdx? (fun p=>p.1 == k) with
  | none =>
   rw [List.findIdx?_eq_none_iff] at hj
   obtain ⟨p,hp,rfl⟩:=List.mem_map.1 hin
   have:=hj p hp
   simp at this
  | some j =>
   have hset:=gz (a:=e) e2 hj
   obtain ⟨hjlt,hjk,_⟩:=List.findIdx?_eq_some_iff_getElem.1 hj
   rw [hj] at hf
   simp [List.getElem?_eq_getElem hjlt] at hf
   have hsz:es.size=m.length:=by
    have:=congrArg List.length e1
    simpa using this
   have hkey:((es[j]?).map (·.key)).getD (kv k)=kv k:=by
    have h5:=congrArg (fun l=>l[j]?) e1
    simp only [List.getElem?_map,List.getElem?_eq_getElem hjlt,Array.getElem?_toList] at h5
    rw [Array.getElem?_eq_getElem ab] at h5 ⊢
    simp at h5 ⊢
    rw [h5.1]
    simp at hjk
    rw [hjk]
   have hst:(Instr.keyThatStays (((es[j]?).map (·.key)).getD (kv k)) (kv k)).run P w=.ok (kv k) w:=by
    rw [hkey]
    simp [Instr.keyThatStays,hk.bits]
   have hborn:(es.modify j fun x=>{ x with key:=kv k,val:=enc e }).toList.map (·.born)=es.toList.map (·.born):=by
    rw [Array.toList_modify]
    apply List.ext_getElem?
    intro i
    simp only [List.getElem?_map,List.getElem?_modify]
    by_cases hij:j=i
    ·subst hij;cases es.toList[j]?<;>simp
    ·simp [hij]
   refine ⟨_,_,?_,rfl,Sat.c8 (es.modify j fun x=>{ x with key:=kv k,val:=enc e },clock,seen,js) ⟨?_,?_,?_,?_,?_,j1,?_,?_,?_⟩ (s2.setMap (o':=.map (es.modify j fun x=>{ x with key:=kv k,val:=enc e }) clock))⟩
   ·simp [execOp,ao ea hx,ao ea hy,ao ea hz,Instr.mapUpdate,run_underlying ht.under,hget,hk.check,hf,hst,eB hb]
   ·show (es.modify j fun x=>{ x with key:=kv k,val:=enc e }).toList.map (fun e=>(e.key,e.val))=(grep m k e).map (fun p=>(kv p.1,enc p.2))
    unfold grep
    rw [hset,Array.toList_modify]
    apply List.ext_getElem?
    intro i
    have h5:=congrArg (fun l=>l[i]?) e1
    simp only [List.getElem?_map] at h5
    simp only [List.getElem?_map,List.getElem?_modify,List.getElem?_set]
    by_cases hij:j=i
    ·subst hij
     have hlt:j<es.toList.length:=by simp;omega
     simp [hjlt,List.getElem?_eq_getElem hlt]
    ·simp only [hij,if_false]
     cases hq:es.toList[i]? with
     | none=>rw [hq] at h5;simpa using h5
     | some q=>rw [hq] at h5;simpa using h5
   ·rw [sR];exact e2
   ·simpa using e3
   ·intro x hx
    obtain ⟨i,hi,rfl⟩:=Array.mem_iff_getElem.1 hx
    have h6:es[i]'(by simpa using hi)∈es:=Array.getElem_mem _
    show ((es.modify j fun x=>{ x with key:=kv k,val:=enc e })[i]'(by simpa using hi)).born<clock
    rw [Array.getElem_modify]
    split
    ·exact e4 (es[i]'(by simpa using hi)) h6
    ·exact e4 _ h6
   ·show ((es.modify j fun x=>{ x with key:=kv k,val:=enc e }).toList.map (·.born)).Nodup
    rw [hborn]
    exact e5
   ·intro i hi
    rw [DQ]
    exact j2 i hi
   ·show grep done k e=js.filterMap (fun j=>(grep m k e)[j]?)
    rw [j3]
    unfold grep
    rw [List.map_filterMap]
    simp only [List.getElem?_map]
   ·show seen.toList=js.filterMap (fun i=>((es.modify j fun x=>{ x with key:=kv k,val:=enc e })[i]?).map (·.born))
    rw [j4]
    apply kB
    intro i _
    have h7:=congrArg (fun l=>l[i]?) hborn
    simp only [List.getElem?_map,Array.getElem?_toList] at h7
    exact h7.symm)
end
end Go.V
namespace Go.V
open Go.Sort Go.Proofs
def Frz (L L' : List HP):Prop:=∀ ι h,Hp.disj ι h→Stars L ι h→Stars L' (Hp.a8 ι h) Hp.emp
theorem Frz.nil:Frz [] []:=fun _ _ _ _=>trivial
theorem qR {ι h:Hp} (hd:Hp.disj ι h) {b:Nat} {o:Obj} (hb:h b=some o):Hp.a8 ι h b=some o:=by
 unfold Hp.a8
 cases hi:ι b with
 | none=>exact hb
 | some x=>have:=hd b x hi;rw [hb] at this;cases this
theorem CH {ι h h2:Hp} (hs:Hp.sub h2 h):Hp.sub (Hp.a8 ι h2) (Hp.a8 ι h):=fun k o hk=>by
 unfold Hp.a8 at hk ⊢
 cases hi:ι k with
 | some x=>rw [hi] at hk;exact hk
 | none=>rw [hi] at hk;exact hs k o hk
theorem Ee {ι h h2:Hp} (hd:Hp.disj ι h) (hs:Hp.sub h2 h):Hp.disj ι h2:=fun k o hk=>by
 have h5:=hd k o hk
 cases h6:h2 k with
 | none=>rfl
 | some o2=>rw [hs k o2 h6] at h5;cases h5
theorem Frz.cons {p p' : HP} {L L' : List HP} (hp:∀ ι₀ ι h₁ h,Hp.disj ι h→Hp.sub h₁ h→p ι₀ h₁→p' (Hp.a8 ι h) Hp.emp) (hL:Frz L L'):Frz (p::L) (p'::L'):=by
 rintro ι h hd ⟨ι₀,h₁,h₂,a,b,c,d,e,f⟩
 exact ⟨Hp.a8 ι h,Hp.emp,Hp.emp,Hp.sub.refl _,Hp.a7 _,Hp.sub.refl _,Hp.sub.refl _,hp ι₀ ι h₁ h hd c e,(hL ι h₂ (Ee hd d) f).mono (CH d) (Hp.sub.refl _)⟩
abbrev encL (l:List Value):List Value:=l
theorem Frz.obj {b T n:Nat} {cs:List Value} {L L' : List HP} (hn:cs.length=n) (hL:Frz L L'):Frz (V.obj b T cs::L) (isl encL n (some ⟨b,0,none⟩) [cs]::L') :=
 Frz.cons (fun _ ι h₁ h hd hs hp=>by
  refine ⟨fun x hx=>by rw [List.mem_singleton.1 hx];exact hn,.inr ⟨b,0,cs.toArray,T,(0,0),rfl,qR hd (hs b _ hp),fun i v hv=>?_⟩⟩
  simpa using hv) hL
theorem Frz.osl {α:Type} {enc:α→List Value} {sz E:Nat} {ad:Option Addr} {cap:Nat} {xs:List α} {L L' : List HP} (hL:Frz L L'):Frz (V.osl enc sz E ad cap xs::L) (isl enc sz ad xs::L') :=
 Frz.cons (fun _ ι h₁ h hd hs hp=>by
  obtain ⟨h1,h2,h3,h4⟩:=hp
  refine ⟨h1,?_⟩
  rcases h4 with ⟨_,h5⟩|⟨g,cur,h5,h6,h7,h8⟩
  ·exact .inl (List.eq_nil_of_length_eq_zero ab)
  ·refine .inr ⟨g,0,cur,E,(0,0),h5,qR hd (hs g _ h6),fun i v hv=>?_⟩
   rw [← h8,List.getElem?_take] at hv
   split at hv
   ·rw [Nat.zero_add]
    simpa using hv
   ·cases hv) hL
theorem Tri.d7 {P:Program} {f:FuncId} {E cap sz:Nat} {ad:Option Addr} {α:Type} {enc:α→List Value} {xs:List α} {Lc Lf:List HP} {fv:Value} (he:Enters P f) (hfr:Frz Lc Lf) (good:List α→Prop) (hg0:xs=[]→good [])
  (h0:xs.length=0→∀ w,Calls P f #[.slice ad 0 cap,fv] w fun e w'=>e=.returned (.tuple #[])∧w' = w)
  (h1:∀ blk w ι,Hp.sub ι (el w)→ι blk=none→Stars Lf ι Hp.emp→Holds id w blk 0 (xs.flatMap enc).toArray→blk<w.heap.size →
   Calls P f #[.slice (some ⟨blk,0,none⟩) xs.length cap,fv] w fun e w'=>e=.returned (.tuple #[])∧∃ ys n os,ys.length=xs.length∧(∀ y∈ys,(enc y).length=sz)∧good ys∧w' = grow (Sort.putRow id (Sort.ahead w n) blk 0 (ys.flatMap enc).toArray) os) :
  Tri P f #[.slice ad xs.length cap,fv] (osl enc sz E ad cap xs::Lc) (fun v L'=>v=.tuple #[]∧∃ ys,good ys∧L' = osl enc sz E ad cap ys::Lc):=by
 refine ⟨he,fun θ R w s=>?_⟩
 by_cases hx:xs.length=0
 ·have e1:xs=[]:=List.eq_nil_of_length_eq_zero hx
  subst e1
  refine (h0 rfl w).mono ?_
  rintro e w' ⟨rfl,rfl⟩
  exact ⟨_,_,rfl,⟨rfl,[],hg0 rfl,rfl⟩,s⟩
 obtain ⟨a1,a2,a3,a4⟩:=Sat.osl_parts (L:=Lc++R) s
 rcases a4 with ⟨rfl,rfl⟩|⟨g,cur,rfl,b1,b2,b3⟩
 ·omega
 have hb:=b3.own_heap
 have hfl:=cA a1
 have hrow:cur.toList.take (xs.flatMap enc).length=xs.flatMap enc:=by rw [hfl];exact b2
 obtain ⟨ok,ι,h,a,c1,c2,ι₀,h₁,h₂,d1,d2,d3,d4,d5,d6⟩:=b3
 have hig:ι g=none:=by
  cases hι:ι g with
  | none=>rfl
  | some o =>
   have h3:=a g o hι
   have h4:h g=some (.cells cur E (0,0)):=d3 g _ d5
   rw [h3] at h4
   cases h4
 obtain ⟨x1,x2,y1,y2,y3,y4,y5⟩:=Stars.split d6
 have hx1:Hp.sub x1 h:=y2.trans d4
 have hix:Hp.disj ι x1:=fun k o hk=>by
  have h5:=a k o hk
  cases h6:x1 k with
  | none=>rfl
  | some o2=>rw [hx1 k o2 h6] at h5;cases h5
 have hLc:Stars Lf (Hp.a8 ι x1) Hp.emp:=hfr ι x1 hix y4
 have hjs:Hp.sub (Hp.a8 ι x1) (el w):=fun k o hk=>by
  unfold Hp.a8 at hk
  cases h6:ι k with
  | some o2=>rw [h6] at hk;exact c1 k o (by rw [h6];exact hk)
  | none=>rw [h6] at hk;exact c2 k o (hx1 k o (by simpa using hk))
 have hxg:Hp.a8 ι x1 g=none:=by
  unfold Hp.a8
  rw [hig]
  cases h6:x1 g with
  | none=>rfl
  | some o2 =>
   have h7:=d2 g _ d5
   rw [y2 g o2 h6] at h7
   cases h7
 have b3:Sat θ (own g (.cells cur E (0,0))::(Lc++R)) w:=⟨ok,ι,h,a,c1,c2,ι₀,h₁,h₂,d1,d2,d3,d4,d5,d6⟩
 refine (h1 g w (Hp.a8 ι x1) hjs hxg hLc (sM hb hrow) (Array.getElem?_eq_some_iff.1 hb).1).mono ?_
 rintro e w' ⟨rfl,ys,n,os,hl,hsz,hgood,rfl⟩
 refine ⟨_,_,rfl,⟨rfl,ys,hgood,rfl⟩,?_⟩
 have hfl2:=cA hsz
 have hle:xs.length*sz≤cap*sz:=Nat.mul_le_mul_right _ a2
 refine Sat.osl_mk (L:=Lc++R) (Sat.c9 b3) hsz ab a3 ?_ ?_
 ·simp [putCells,b1]
 ·rw [← hfl2]
  exact nB (by rw [hfl2,hl,b1];exact hle)
theorem Tri.a8 {P:Program} {ρ:Go.Shelf.Ren} (S:SlLaysF.n6 P ρ) (S0:SlLaysF0.n6 P ρ) {E cap:Nat} {ad:Option Addr} {α:Type} [Inhabited α] {enc:α→Value} (h1:OneCell enc) {xs:List α} {Lc Lf:List HP} {g:Nat} {cb:Array Value} (cf:α→α→Int) (hO:SWO (ltOf cf))
  (he:Enters P (ρ.f 6)) (heg:Enters P g) (hfr:Frz Lc Lf) (hcmp:∀ x y:α,Tri P g (#[enc x,enc y]++cb) Lf (fun u _=>u=.int .i64 (cf x y))) (hsz:xs.length<4611686018427387904) :
  Tri P (ρ.f 6) #[.slice ad xs.length cap,.func (.func g) #[] cb] (osl (fun x=>[enc x]) 1 E ad cap xs::Lc) (fun v L'=>v=.tuple #[]∧∃ ys,eT cf xs ys∧L' = osl (fun x=>[enc x]) 1 E ad cap ys::Lc):=by
 refine Tri.d7 he hfr (eT cf xs) (fun h=>by subst h;exact ⟨List.Perm.refl _,List.Pairwise.nil⟩) ?_ ?_
 ·intro h0 w
  exact AnyF.slices_SortFunc_none S0 ad cap (.func (.func g) #[] cb) w
 ·intro blk w ι hi hb hL hH hblk
  have hc:=Any.slices_SortFunc S enc h1 cf hO g cb blk 0 cap xs.toArray w heg (fun m os dk _ x y=>Tri.a6 (hcmp x y) (lV hi hb) hL) (sO hH) hblk (by simpa using hsz)
  rw [show xs.toArray.size=xs.length by simp] at hc
  refine hc.mono ?_
  rintro e w' ⟨rfl,d',n,os,hp,hs,rfl⟩
  have hp2:d'.toList.Perm xs:=jg (by simpa using hp)
  have hds:d'.size=xs.length:=by have:=hp2.length_eq;simpa using this
  refine ⟨rfl,d'.toList,n,os,hp2.length_eq,fun _ _=>rfl,⟨hp2,?_⟩,?_⟩
  ·rw [← hds] at hs
   refine (gE hs).imp ?_
   intro a b hab
   simpa [ltOf] using hab
  ·unfold sortWorld
   rw [qE]
theorem Tri.c9 {P:Program} {ρ:Go.Shelf.Ren} (S0:SlLaysF0.n6 P ρ) {E cap sz:Nat} {ad:Option Addr} {α:Type} {enc:α→List Value} {L:List HP} {fv:Value} (he:Enters P (ρ.f 6)) :
  Tri P (ρ.f 6) #[.slice ad 0 cap,fv] (osl enc sz E ad cap []::L) (fun v L'=>v=.tuple #[]∧L' = osl enc sz E ad cap []::L):=by
 refine ⟨he,fun θ R w s=>(AnyF.slices_SortFunc_none S0 ad cap fv w).mono ?_⟩
 rintro e w' ⟨rfl,rfl⟩
 exact ⟨_,_,rfl,⟨rfl,rfl⟩,s⟩
end Go.V
