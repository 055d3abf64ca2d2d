import Derived.Test.YtenbhdilndfaeaaGreatM03
set_option maxRecDepth 100000
set_option maxHeartbeats 0
set_option linter.all false
namespace Go.Proofs.YtenbhdilndfaeaaGreat
open Go.RowKit Go.Proofs.Tryz
variable{G:Prop}{A:Option Addr}(w:World)
theorem HK(h:G:=by
 clear A;exact HN):G:=h
theorem HN(h:G:=by
 go_enter func164,ntmps164
 go_wp2_with fail
 have hB:=m;obtain⟨Z,ah⟩:=hB.iB;have O:=hB.hm 0;have C:=hB.hm 1;go_wp2;refine lA #[.bool false,i_ (0)] (i_ (-2)) hB underlying38 ⟨by unfold qa;rw[aB.out],?_⟩;exact J):G:=h
theorem KQ(h:G:=by
 refine lA #[.bool false,i_ (x)] (i_ 0) ((hB.hJ 0 (.bool false)).hJ 1 (i_ (x))) underlying38 ⟨by unfold qa;rw[aB.out],?_⟩;exact J5):G:=h
theorem KR(h:G:=by
 refine lA #[.bool false,i_ (y)] (i_ 0) ((hB.hJ 0 (.bool false)).hJ 1 (i_ (y))) underlying38 ⟨by unfold qa;rw[aB.out],?_⟩;exact J5):G:=h
theorem Ir(h:G:=by
 have aB:=h_ (show ph op=false by rw[aY.out];rw[FI];omega)
 go_enter func180,ntmps180
 go_wp2
 go_ret2
 exact⟨by rw[aB.out];exact⟨_,rfl⟩,D_ _ _⟩):G:=h
theorem J5(h:G:=by
 exact((((J.drewN nq).trans ad)).setCell (.inr p_) _).setCell (.inr p_) _):G:=h
def py(op x y:Int):Vl × Int:=
 if op=1 then(⟨false,wrap64 (x+y)⟩,0) else if op=2 then(⟨false,wrap64 (x-y)⟩,0) else if op=3 then(⟨false,wrap64 (x*y)⟩,0)
 else if op=4 then(if y=0 then(⟨false,0⟩, -3) else if y= -1 then(⟨false,wrap64 (-x)⟩,0) else(⟨false,wrap64 (x.tdiv y)⟩,0))
 else if op=5 then(⟨false,if y<x then y else x⟩,0) else if op=6 then(⟨false,if x<y then y else x⟩,0)
 else if op=7 then(⟨false,bits .and .i64 x y⟩,0) else if op=8 then(⟨false,bits .or .i64 x y⟩,0) else if op=9 then(⟨false,bits .xor .i64 x y⟩,0)
 else(⟨false,if x<y then 1 else 0⟩,0)
def iy(op:Int)(a b:Vl):Vl × Int:=
 if op=11 then(⟨false,if a=b then 1 else 0⟩,0) else if op<1∨11<op∨a.r=true∨b.r=true then(⟨false,0⟩, -2) else py op a.n b.n
def qa(r:Vl × Int)(e:Ending):Prop:=e=.returned (.tuple #[.agg #[.bool r.1.r,i_ r.1.n],i_ r.2])
theorem yE(op:Int)(a b:Vl)(w:World)(ha:a.r=false)(hb:b.r=false)(h1:1<=op)(h2:op<=10):
 Calls prog 164 #[i_ op,.agg #[.bool a.r,i_ a.n],.agg #[.bool b.r,i_ b.n]] w λe w'=>qa (py op a.n b.n) e/\Gr [] w w':=by
 obtain⟨-,-,-,J⟩:=vQ w 38 #[.bool a.r,i_ a.n] 38 #[.bool b.r,i_ b.n] 38 #[.bool false,i_ 0]
 have m:Bk (((w.alloc (.cells #[.bool a.r,i_ a.n] 38)).alloc (.cells #[.bool b.r,i_ b.n] 38)).alloc (.cells #[.bool false,i_ 0] 38)) (w.heap.size+2) 38 #[.bool false,i_ 0]:=by simpa using L_ ((w.alloc (.cells #[.bool a.r,i_ a.n] 38)).alloc (.cells #[.bool b.r,i_ b.n] 38)) 38 #[.bool false,i_ 0]
 obtain⟨d,x⟩:=a;obtain⟨au,y⟩:=b;simp only at ha hb;subst ha;subst hb;simp only at J m |-
 have o:op=1∨op=2∨op=3∨op=4∨op=5∨op=6∨op=7∨op=8∨op=9∨op=10:=by omega
 rcases o with rfl|rfl|rfl|rfl|rfl|rfl|rfl|rfl|rfl|rfl
 .have aB:=h_ (show py 1 x y=((⟨false,wrap64 (x+y)⟩:Vl),(0:Int)) by simp[py])
  go_enter func164,ntmps164
  go_wp2_with fail
  go_quiet (fail)
  go_wp2_with fail
  go_at_call 196
  refine(jP _ _).mono ?_;rintro e w2⟨rfl,ad⟩;have hB:=(m.drewN nq).g_ ad;obtain⟨Z,ah⟩:=hB.iB;have O:=hB.hm 0;have C:=hB.hm 1;go_wp2;refine D8 (v:=.tuple #[.agg #[.bool false,i_ (wrap64 (x+y))],i_ 0]) (it (p:=6) (u:=7) rfl _ _ _ _ _ _ _ rfl ((hB.hJ 0 (.bool false)).hJ 1 (i_ (wrap64 (x+y)))) underlying38 rfl k_) rfl ⟨by unfold qa;rw[aB.out],?_⟩;exact J5
 .have aB:=h_ (show py 2 x y=((⟨false,wrap64 (x-y)⟩:Vl),(0:Int)) by simp[py])
  go_enter func164,ntmps164
  go_wp2_with fail
  go_quiet (fail)
  go_wp2_with fail
  go_at_call 196
  refine(jP _ _).mono ?_;rintro e w2⟨rfl,ad⟩;have hB:=(m.drewN nq).g_ ad;obtain⟨Z,ah⟩:=hB.iB;have O:=hB.hm 0;have C:=hB.hm 1;go_wp2;refine D8 (v:=.tuple #[.agg #[.bool false,i_ (wrap64 (x-y))],i_ 0]) (it (p:=6) (u:=7) rfl _ _ _ _ _ _ _ rfl ((hB.hJ 0 (.bool false)).hJ 1 (i_ (wrap64 (x-y)))) underlying38 rfl k_) rfl ⟨by unfold qa;rw[aB.out],?_⟩;exact J5
 .have aB:=h_ (show py 3 x y=((⟨false,wrap64 (x*y)⟩:Vl),(0:Int)) by simp[py])
  go_enter func164,ntmps164
  go_wp2_with fail
  go_quiet (fail)
  go_wp2_with fail
  go_at_call 196
  refine(jP _ _).mono ?_;rintro e w2⟨rfl,ad⟩;have hB:=(m.drewN nq).g_ ad;obtain⟨Z,ah⟩:=hB.iB;have O:=hB.hm 0;have C:=hB.hm 1;go_wp2;refine D8 (v:=.tuple #[.agg #[.bool false,i_ (wrap64 (x*y))],i_ 0]) (it (p:=6) (u:=7) rfl _ _ _ _ _ _ _ rfl ((hB.hJ 0 (.bool false)).hJ 1 (i_ (wrap64 (x*y)))) underlying38 rfl k_) rfl ⟨by unfold qa;rw[aB.out],?_⟩;exact J5
 .by_cases hy:y=0
  .subst hy;have aB:=h_ (show py 4 x 0=((⟨false,0⟩:Vl),((-3):Int)) by simp[py])
   go_enter func164,ntmps164
   go_wp2_with fail
   go_quiet (fail)
   have hB:=m.drewN nq;obtain⟨Z,ah⟩:=hB.iB;have O:=hB.hm 0;have C:=hB.hm 1;go_wp2;refine lA #[.bool false,i_ (0)] (i_ (-3)) ((hB.hJ 0 (.bool false)).hJ 1 (i_ (0))) underlying38 ⟨by unfold qa;rw[aB.out],?_⟩;exact((J.drewN nq).setCell (.inr p_) _).setCell (.inr p_) _
  .have f:(y==0)=false:=by simpa using hy
   by_cases Y:y= -1
   .subst Y;have aB:=h_ (show py 4 x (-1)=((⟨false,wrap64 (-x)⟩:Vl),(0:Int)) by simp[py])
    go_enter func164,ntmps164
    go_wp2_with fail
    go_quiet (fail)
    go_wp2_with fail
    go_at_call 196
    refine(jP _ _).mono ?_;rintro e w2⟨rfl,ad⟩;have hB:=(m.drewN nq).g_ ad;obtain⟨Z,ah⟩:=hB.iB;have O:=hB.hm 0;have C:=hB.hm 1;go_wp2;refine D8 (v:=.tuple #[.agg #[.bool false,i_ (wrap64 (-x))],i_ 0]) (it (p:=6) (u:=7) rfl _ _ _ _ _ _ _ rfl ((hB.hJ 0 (.bool false)).hJ 1 (i_ (wrap64 (-x)))) underlying38 rfl k_) rfl ⟨by unfold qa;rw[aB.out],?_⟩;exact J5
   .have aB:=h_ (show py 4 x y=((⟨false,wrap64 (x.tdiv y)⟩:Vl),(0:Int)) by simp[py,hy,Y])
    have c7:(y== -1)=false:=by simpa using Y
    clear Y
    go_enter func164,ntmps164
    go_wp2_with fail
    go_quiet (fail)
    go_wp2_with fail
    go_at_call 196
    refine(jP _ _).mono ?_;rintro e w2⟨rfl,ad⟩;have hB:=(m.drewN nq).g_ ad;obtain⟨Z,ah⟩:=hB.iB;have O:=hB.hm 0;have C:=hB.hm 1;go_wp2;refine D8 (v:=.tuple #[.agg #[.bool false,i_ (wrap64 (x.tdiv y))],i_ 0]) (it (p:=6) (u:=7) rfl _ _ _ _ _ _ _ rfl ((hB.hJ 0 (.bool false)).hJ 1 (i_ (wrap64 (x.tdiv y)))) underlying38 rfl k_) rfl ⟨by unfold qa;rw[aB.out],?_⟩;exact J5
 .by_cases c:y<x
  .have aB:=h_ (show py 5 x y=((⟨false,y⟩:Vl),(0:Int)) by simp[py,c])
   go_enter func164,ntmps164
   go_wp2_with fail
   go_quiet (fail)
   go_wp2_with fail
   go_at_call 196
   refine(jP _ _).mono ?_;rintro e w2⟨rfl,ad⟩;have hB:=(m.drewN nq).g_ ad;obtain⟨Z,ah⟩:=hB.iB;have O:=hB.hm 0;have C:=hB.hm 1;go_wp2
   (try rw[show min x y=y from o_])
   exact KR
  .have aB:=h_ (show py 5 x y=((⟨false,x⟩:Vl),(0:Int)) by simp[py,c])
   go_enter func164,ntmps164
   go_wp2_with fail
   go_quiet (fail)
   go_wp2_with fail
   go_at_call 196
   refine(jP _ _).mono ?_;rintro e w2⟨rfl,ad⟩;have hB:=(m.drewN nq).g_ ad;obtain⟨Z,ah⟩:=hB.iB;have O:=hB.hm 0;have C:=hB.hm 1;go_wp2
   (try rw[show min x y=x from o_])
   exact KQ
 .by_cases c:x<y
  .have aB:=h_ (show py 6 x y=((⟨false,y⟩:Vl),(0:Int)) by simp[py,c])
   go_enter func164,ntmps164
   go_wp2_with fail
   go_quiet (fail)
   go_wp2_with fail
   go_at_call 196
   refine(jP _ _).mono ?_;rintro e w2⟨rfl,ad⟩;have hB:=(m.drewN nq).g_ ad;obtain⟨Z,ah⟩:=hB.iB;have O:=hB.hm 0;have C:=hB.hm 1;go_wp2
   (try rw[show max x y=y from o_])
   exact KR
  .have aB:=h_ (show py 6 x y=((⟨false,x⟩:Vl),(0:Int)) by simp[py,c])
   go_enter func164,ntmps164
   go_wp2_with fail
   go_quiet (fail)
   go_wp2_with fail
   go_at_call 196
   refine(jP _ _).mono ?_;rintro e w2⟨rfl,ad⟩;have hB:=(m.drewN nq).g_ ad;obtain⟨Z,ah⟩:=hB.iB;have O:=hB.hm 0;have C:=hB.hm 1;go_wp2
   (try rw[show max x y=x from o_])
   exact KQ
 .have aB:=h_ (show py 7 x y=((⟨false,bits .and .i64 x y⟩:Vl),(0:Int)) by simp[py])
  go_enter func164,ntmps164
  go_wp2_with fail
  go_quiet (fail)
  go_wp2_with fail
  go_at_call 196
  refine(jP _ _).mono ?_;rintro e w2⟨rfl,ad⟩;have hB:=(m.drewN nq).g_ ad;obtain⟨Z,ah⟩:=hB.iB;have O:=hB.hm 0;have C:=hB.hm 1;go_wp2;refine lA #[.bool false,i_ (bits .and .i64 x y)] (i_ 0) ((hB.hJ 0 (.bool false)).hJ 1 (i_ (bits .and .i64 x y))) underlying38 ⟨by unfold qa;rw[aB.out],?_⟩;exact J5
 .have aB:=h_ (show py 8 x y=((⟨false,bits .or .i64 x y⟩:Vl),(0:Int)) by simp[py])
  go_enter func164,ntmps164
  go_wp2_with fail
  go_quiet (fail)
  go_wp2_with fail
  go_at_call 196
  refine(jP _ _).mono ?_;rintro e w2⟨rfl,ad⟩;have hB:=(m.drewN nq).g_ ad;obtain⟨Z,ah⟩:=hB.iB;have O:=hB.hm 0;have C:=hB.hm 1;go_wp2;refine lA #[.bool false,i_ (bits .or .i64 x y)] (i_ 0) ((hB.hJ 0 (.bool false)).hJ 1 (i_ (bits .or .i64 x y))) underlying38 ⟨by unfold qa;rw[aB.out],?_⟩;exact J5
 .have aB:=h_ (show py 9 x y=((⟨false,bits .xor .i64 x y⟩:Vl),(0:Int)) by simp[py])
  go_enter func164,ntmps164
  go_wp2_with fail
  go_quiet (fail)
  go_wp2_with fail
  go_at_call 196
  refine(jP _ _).mono ?_;rintro e w2⟨rfl,ad⟩;have hB:=(m.drewN nq).g_ ad;obtain⟨Z,ah⟩:=hB.iB;have O:=hB.hm 0;have C:=hB.hm 1;go_wp2;refine lA #[.bool false,i_ (bits .xor .i64 x y)] (i_ 0) ((hB.hJ 0 (.bool false)).hJ 1 (i_ (bits .xor .i64 x y))) underlying38 ⟨by unfold qa;rw[aB.out],?_⟩;exact J5
 .by_cases c:x<y
  .have aB:=h_ (show py 10 x y=((⟨false,1⟩:Vl),(0:Int)) by simp[py,c])
   go_enter func164,ntmps164
   go_wp2_with fail
   go_quiet (fail)
   go_wp2_with fail
   go_at_call 195
   refine(qG _ _).mono ?_;rintro e w2⟨rfl,ad⟩;have hB:=(m.drewN nq).g_ ad;obtain⟨Z,ah⟩:=hB.iB;have O:=hB.hm 0;have C:=hB.hm 1;go_wp2;refine lA #[.bool false,i_ (1)] (i_ 0) ((hB.hJ 0 (.bool false)).hJ 1 (i_ (1))) underlying38 ⟨by unfold qa;rw[aB.out],?_⟩;exact J5
  .have aB:=h_ (show py 10 x y=((⟨false,0⟩:Vl),(0:Int)) by simp[py,c])
   go_enter func164,ntmps164
   go_wp2_with fail
   go_quiet (fail)
   go_wp2_with fail
   go_at_call 195
   refine(qG _ _).mono ?_;rintro e w2⟨rfl,ad⟩;have hB:=(m.drewN nq).g_ ad;obtain⟨Z,ah⟩:=hB.iB;have O:=hB.hm 0;have C:=hB.hm 1;go_wp2;refine lA #[.bool false,i_ (0)] (i_ 0) ((hB.hJ 0 (.bool false)).hJ 1 (i_ (0))) underlying38 ⟨by unfold qa;rw[aB.out],?_⟩;exact J5
theorem mm(op:Int)(a b:Vl)(w:World):
 Calls prog 164 #[i_ op,.agg #[.bool a.r,i_ a.n],.agg #[.bool b.r,i_ b.n]] w λe w'=>qa (iy op a b) e/\Gr [] w w':=by
 obtain⟨-,-,-,J⟩:=vQ w 38 #[.bool a.r,i_ a.n] 38 #[.bool b.r,i_ b.n] 38 #[.bool false,i_ 0]
 have m:Bk (((w.alloc (.cells #[.bool a.r,i_ a.n] 38)).alloc (.cells #[.bool b.r,i_ b.n] 38)).alloc (.cells #[.bool false,i_ 0] 38)) (w.heap.size+2) 38 #[.bool false,i_ 0]:=by simpa using L_ ((w.alloc (.cells #[.bool a.r,i_ a.n] 38)).alloc (.cells #[.bool b.r,i_ b.n] 38)) 38 #[.bool false,i_ 0]
 by_cases A:op=11
 .subst A
  by_cases hab:a=b
  .have aB:=h_ (show iy 11 a b=((⟨false,1⟩:Vl),(0:Int)) by simp[iy,hab])
   have aq:=λW=>(y0 a b W).trans (show _=Result.ok (Value.bool true) W by rw[Ek hab])
   clear hab
   go_enter func164,ntmps164
   go_wp2_with fail
   go_wp2_with fail
   go_at_call 195
   refine(qG _ _).mono ?_;rintro e w2⟨rfl,ad⟩;have hB:=(m).g_ ad;obtain⟨Z,ah⟩:=hB.iB;have O:=hB.hm 0;have C:=hB.hm 1;go_wp2;refine lA #[.bool false,i_ (1)] (i_ 0) ((hB.hJ 0 (.bool false)).hJ 1 (i_ (1))) underlying38 ⟨by unfold qa;rw[aB.out],?_⟩;exact(((J.trans ad)).setCell (.inr p_) _).setCell (.inr p_) _
  .have aB:=h_ (show iy 11 a b=((⟨false,0⟩:Vl),(0:Int)) by simp[iy,hab])
   have aq:=λW=>(y0 a b W).trans (show _=Result.ok (Value.bool false) W by rw[EU hab])
   clear hab
   go_enter func164,ntmps164
   go_wp2_with fail
   go_wp2_with fail
   go_at_call 195
   refine(qG _ _).mono ?_;rintro e w2⟨rfl,ad⟩;have hB:=(m).g_ ad;obtain⟨Z,ah⟩:=hB.iB;have O:=hB.hm 0;have C:=hB.hm 1;go_wp2;refine lA #[.bool false,i_ (0)] (i_ 0) ((hB.hJ 0 (.bool false)).hJ 1 (i_ (0))) underlying38 ⟨by unfold qa;rw[aB.out],?_⟩;exact(((J.trans ad)).setCell (.inr p_) _).setCell (.inr p_) _
 .have f:(op==11)=false:=by simpa using A
  by_cases h1:op<1
  .have aB:=h_ (show iy op a b=((⟨false,0⟩:Vl),(-2:Int)) by unfold iy;rw[P_ A,Q_ (.inl h1)]);exact HK
  .by_cases h2:11<op
   .have aB:=h_ (show iy op a b=((⟨false,0⟩:Vl),(-2:Int)) by unfold iy;rw[P_ A,Q_ (.inr (.inl h2))]);exact HK
   .cases c:a.r with
    |true=>
     have aB:=h_ (show iy op a b=((⟨false,0⟩:Vl),(-2:Int)) by unfold iy;rw[P_ A,Q_ (.inr (.inr (.inl c)))]);clear A;rw[c]at m J;exact HN
    |false=>
     cases d:b.r with
     |true=>
      have aB:=h_ (show iy op a b=((⟨false,0⟩:Vl),(-2:Int)) by unfold iy;rw[P_ A,Q_ (.inr (.inr (.inr d)))]);clear A;rw[c,d]at m J;exact HN
     |false=>
      have aB:=h_ (show iy op a b=py op a.n b.n by unfold iy;rw[P_ A,P_ (by rw[c,d];simp;omega)])
      have:=yE op a b w c d o_ o_
      rw[c,d]at this
      exact this.mono λe w' h=>⟨by rw[aB.out];exact h.1,h.2⟩
structure In where
 op:Int
 a:Int
 b:Int
 c:Int
 n:Int
 deriving DecidableEq,Inhabited
def In.E(i:In):List Value:=[i_ i.op,i_ i.a,i_ i.b,i_ i.c,i_ i.n]
def lH(l:List In):List Value:=l.flatMap In.E
theorem tC(a b:List In):lH (a++b)=lH a++lH b:=by simp[lH]
theorem wI(l:List In):∀u∈lH l,u.oneCell'=true:=by
 intro u hu;obtain⟨v,_,hv⟩:=E2.1 hu;simp[In.E]at hv
 rcases hv with rfl|rfl|rfl|rfl|rfl<;>rfl
def Is(w:World)(A:Option Addr)(l:List In):Prop:=Sl w 189 5 A l.length (lH l)
theorem Is.g_{w w':World}{l:List In}(h:Is w A l)(hg:Gr [] w w'):Is w' A l:=Sl.g_ h hg
theorem Is.at_{w:World}{l:List In}(h:Is w A l){k:Nat}(hk:k<l.length):
 ∃b off,A=some (c_ b off)/\w.cell? (c_ b (off+k*5))=some (i_ l[k].op)/\w.cell? (c_ b (off+k*5+1))=some (i_ l[k].a)/\w.cell? (c_ b (off+k*5+2))=some (i_ l[k].b)/\w.cell? (c_ b (off+k*5+3))=some (i_ l[k].c)/\w.cell? (c_ b (off+k*5+4))=some (i_ l[k].n):=by
 obtain⟨b,off,U,hc⟩:=Sl.f_ h o_
 have g:=λj hj=>iW In.E 5 (λ_=>rfl) l k j hk hj
 exact K5
def ij(l:List In)(pc:Int):Int:=if pc<0∨(l.length:Int)<=pc then -1 else(l.getD pc.toNat default).op
theorem p4(A:Option Addr)(c:Nat)(l:List In)(hq g9 pc:Int)(w:World)(h:Is w A l)(hn:l.length<=1000000000):
 Calls prog 133 #[.agg #[.slice A l.length c,i_ hq,i_ g9],i_ pc] w λe w'=>e=.returned (i_ (ij l pc))/\Gr [] w w':=by
 have z:=h_ (show ij l pc=if pc<0∨(l.length:Int)<=pc then -1 else(l.getD pc.toNat default).op from rfl);have J:=(D_ [] w).alloc (.cells #[.slice A l.length c,i_ hq,i_ g9] 26)
 by_cases h0:pc<0
 .go_enter func133,ntmps133
  go_wp2;go_ret;exact⟨j0 (by rw[z.out,Q_ (.inl h0)]),J⟩
 .by_cases h1:(l.length:Int)<=pc
  .go_enter func133,ntmps133
   go_wp2;go_ret;exact⟨j0 (by rw[z.out,Q_ (.inr h1)]),J⟩
  .have hk:pc.toNat<l.length:=by omega
   obtain⟨k,rfl⟩:∃k:Nat,pc=k:=⟨pc.toNat,(EX o_).symm⟩;rw[ED]at hk;obtain⟨b,off,rfl,bj,_,_,_,_⟩:=(h.g_ J).at_ hk
   have aj:(k:Int)<(l.length:Int):=by omega
   go_enter func133,ntmps133
   go_wp2;go_ret;exact⟨j0 (by rw[z.out,P_ o_,ED,List.getD,K_ hk];rfl),J⟩
def lV(n:Int)(u:Bool):Bool:=n==0||(u&&(decide (0<n)&&decide (n<16)))
theorem um(n:Int)(u:Bool)(w:World):Calls prog 178 #[i_ n,.bool u] w λe w'=>e=.returned (.bool (lV n u))/\w=w':=by
 have D:=h_ (show lV n u=(n==0||(u&&(decide (0<n)&&decide (n<16)))) from rfl)
 by_cases h0:n=0
 .subst h0
  go_enter func178,ntmps178
  go_wp2;go_ret;exact⟨iq (by rw[D.out];rfl),by trivial⟩
 .have a:(n==0)=false:=by simpa using h0
  cases u with
  |false=>
   go_enter func178,ntmps178
   go_wp2;go_ret;exact⟨iq (by rw[D.out,a];rfl),by trivial⟩
  |true=>
   by_cases h1:0<n
   .by_cases h2:n<16
    .go_enter func178,ntmps178
     go_wp2;go_ret;exact⟨iq (by rw[D.out,a,Ek h1,Ek h2];rfl),by trivial⟩
    .have d:decide (n<16)=false:=by simpa using h2
     go_enter func178,ntmps178
     go_wp2;go_ret;exact⟨iq (by rw[D.out,a,Ek h1,d];rfl),by trivial⟩
   .have h1':decide (0<n)=false:=by simpa using h1
    go_enter func178,ntmps178
    go_wp2;go_ret;exact⟨iq (by rw[D.out,a,h1'];rfl),by trivial⟩
def ph(op:Int):Bool:=decide (1<=op/\op<=11)
theorem yh:Calls prog 208 #[] w λe w'=>∃(g:Nat) (cs:Array Value),e=.returned (.slice (j_ g) 12 12)/\Bk w' g 9 cs/\(∀k,k<12->∃s,cs[k]?=some (.string s))/\Gr [] w w':=by
 go_enter func208,ntmps208
 go_wp2;go_ret;refine⟨w.heap.size,_,rfl,L_ w _ _,λk hk=>?_,(D_ _ _).alloc _⟩
 have bm:k=0∨k=1∨k=2∨k=3∨k=4∨k=5∨k=6∨k=7∨k=8∨k=9∨k=10∨k=11:=by omega
 rcases bm with rfl|rfl|rfl|rfl|rfl|rfl|rfl|rfl|rfl|rfl|rfl|rfl<;>exact⟨_,rfl⟩
def D1(b:Bool)(e:Ending):Prop:=∃s:ByteArray,e=.returned (.tuple #[.string s,.bool b])
theorem qA(op:Int)(w:World):Calls prog 180 #[i_ op] w λe w'=>D1 (ph op) e/\Gr [] w w':=by
 have aY:=h_ (show ph op=decide (1<=op/\op<=11) from rfl)
 by_cases h1:op<1
 .exact Ir
 .by_cases h2:11<op
  .exact Ir
  .have aB:=h_ (show ph op=true by rw[aY.out];rw[EP];omega);obtain⟨k,rfl⟩:∃k:Nat,op=k:=⟨op.toNat,(EX o_).symm⟩
   have hk:k<12:=by omega
   have bW:(k:Int)<12:=by omega
   go_enter func180,ntmps180
   go_wp2_with fail
   go_at_call 208
   refine(yh _).mono ?_;rintro e w2⟨g,cs,rfl,hB,hs,ad⟩;obtain⟨st,bA⟩:=hs k hk;have hc:=(hB.f_ k).trans bA;clear hs bA;go_wp2
   go_ret2
   exact⟨by rw[aB.out];exact⟨_,rfl⟩,ad⟩
end Go.Proofs.YtenbhdilndfaeaaGreat
