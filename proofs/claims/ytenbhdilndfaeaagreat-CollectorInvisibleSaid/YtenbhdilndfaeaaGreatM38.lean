import Derived.Test.YtenbhdilndfaeaaGreatM20
import Derived.Test.YtenbhdilndfaeaaGreatM36
import Derived.Test.YtenbhdilndfaeaaGreatM37
import Derived.Laws.CopyRow
import Derived.Laws.EntriesVeiled
import Derived.Lib.SliceRun
import Derived.Sort.OwnSortedInts
set_option maxRecDepth 100000
set_option maxHeartbeats 0
set_option linter.all false
namespace Go.Proofs.YtenbhdilndfaeaaGreat
open Go.RowKit Go.Proofs.Tryz
variable{base g j s:Nat}{ops:Array Oper}{a:Ob->Bool}{Q:Exit->Act->World->Prop}{x:Operand}{aT:TypeId}{α:Type}{rb:Bool}
def I3{G:Prop} (h:G:=by
 refine h4 MY (b8.f_ 0) λC=>?_
 clear MY K
 refine hZ 5 λK MY=>?_
 have aV:=m.f_ 0;have bB:=m.hG 0;go_simp;have T:I [x] MT (MT.setCell (Z x 0) (.slice bg b.length aO)):=(H [x] MT).setCell (p:=Z x 0) (.inl J) _
 refine h4 MY ((b8.gr T (by rw[I_];exact aL)).f_ 0) λC=>?_
 clear MY K;refine hM k_ ?_ _;go_wp2;go_meet;exact⟨x,bg,aO,rfl,by simpa using m.hV 0 (.slice bg b.length aO),Sl.it k m O T,F.hJ T (λy hy=>.inr (by rw[I_]at hy;omega))⟩):G:=h
section
open Go.RowKit Go.Sort Go.Shelf Go.Lib
def wk(d:Array Int)(r:∀i j,i<=j->j<d.size->d[i]! <=d[j]!):∀m,m<=d.size->Asc (compactUpTo d m) (λx=>∃j,j<m/\d[j]! =x)
 |0,_=>⟨by simp[compactUpTo],λx=>by simp[compactUpTo]⟩
 |m+1,B=>by
  have b:=wk d r m X;rw[compactUpTo_succ]
  cases q:keeps d m with
  |false=>
   have k:m≠0/\d[m]! =d[m-1]! :=by
    unfold keeps at q
    have:=Ii q
    exact⟨λe=>this (.inl e),Classical.byContradiction λe=>this (.inr e)⟩
   refine⟨by simpa using b.lt,λx=>?_⟩;simp only[Bool.false_eq_true,if_false,HS,b.mem];constructor
   .rintro⟨j,c,e⟩;exact⟨j,X,e⟩
   .rintro⟨j,c,e⟩
    by_cases h:j=m
    .subst h;exact⟨j-1,X,by rw[<-k.2];exact e⟩
    .exact⟨j,X,e⟩
  |true=>
   have k:m=0∨d[m]! ≠d[m-1]! :=H0 q;refine⟨?_,λx=>?_⟩
   .rw[U_ rfl,HO];refine⟨b.lt,J,λx t C u=>?_⟩;rw[I_.1 u];obtain⟨j,c,rfl⟩:=(b.mem x).1 t;have v:=r j (m-1) X X;have y:=r (m-1) m X X;have z:=k.resolve_left X;omega
   .rw[U_ rfl,X_,b.mem,I_];constructor
    .rintro(⟨j,c,e⟩|e)
     .exact⟨j,X,e⟩
     .exact⟨m,X,e.symm⟩
    .rintro⟨j,c,e⟩
     by_cases h:j=m
     .subst h;exact .inr e.symm
     .exact .inl ⟨j,X,e⟩
def zy(l:List Int):compact (l.mergeSort λx y=>decide (x<=y))=mR l:=by
 have m:=List.mergeSort_perm l (λx y=>decide (x<=y));have r:=List.pairwise_mergeSort (le:=λx y:Int=>decide (x<=y)) (λa k u v z=>by simp at*;omega) (λa k=>by simp;omega) l;generalize l.mergeSort (λx y=>decide (x<=y))=s at*
 have h:=wk s.toArray (λc j t b=>by
  have b:j<s.length:=zu b
  rcases FW c j with h|h
  .have:=List.pairwise_iff_getElem.1 r c j X b h
   have i:s.toArray[c]! =s[c]:=by simp[show c<s.length by omega]
   have d:s.toArray[j]! =s[j]:=by simp[b]
   rw[i,d];exact MR
  .have:c=j:=X
   subst this
   exact Gg _) s.length J
 unfold compact;refine Asc.eq h ?_;refine⟨(ll l).lt,λx=>?_⟩;rw[(ll l).mem,<-m.mem_iff,List.mem_iff_getElem];constructor
 .rintro⟨j,b,e⟩;exact⟨j,b,by simp[b,e]⟩
 .rintro⟨j,b,e⟩;exact⟨j,b,by simpa[b]using e⟩
def Eg(w:World):grow w #[]=w:=by unfold grow;simp
def rW{l:List Int}{w:World}(h:GA base w g l)(hn:l.length<=1000000000)(S:base<=w.heap.size):
 Calls prog 70 #[q_ g] w λe w'=>∃(A:OA) (c:Nat),e=.returned (.slice A (mR l).length c)/\Ls w' A (mR l)/\(mR l).length<=c/\Fx base [119,2] w w':=by
 obtain⟨hbg,ad,t,r,F⟩:=h
 refine h5 λQ O=>?_
 have MV:=r.f_ 0
 rcases F.2 with⟨B,R⟩|⟨p,l3,cur,E,V,k,hcl,bC,K,L⟩
 .have i:l=[]:=FZ R;subst i;injection B with B _ d;subst B;subst d;have v:=U (AnyM.slices_Sort_int_none C3 none 0 w);have m:=U (AnyG.slices_Compact_int_empty C_ none 0 w);clear F r
  go_enter func70,ntmps70
  go_wp2_with (first
   |(go_at_call 107;refine v.out.mono ?_;rintro e b⟨rfl,rfl⟩)
   |(go_at_call 108;refine m.out.mono ?_;rintro e b⟨rfl,rfl⟩))
  rw[O.out];exact⟨none,0,rfl,Gw _ _ _ _,H_ _,.js (H _ _)⟩
 .injection E with E hv1 a2;subst E;subst a2;have ca:l.length<=9223372036854775807:=X;have u:Holds (Value.int .i64) w p 0 l.toArray:=holds_of_blockI k (zu L);have bZ:=la k;have v:=U (AnyM.slices_Sort_int C3 p 0 t l w u bZ X)
  have bJ:g≠p:=by
   rintro rfl;unfold Bk at r;rw[r]at k
   cases k
  have bu:=U (show ∀(n:Nat) (os:Array Obj),I [p] w (grow (putRow (Value.int .i64) (Sort.ahead w n) p 0 (l.mergeSort λx d=>decide (x<=d)).toArray) os)/\
   (grow (putRow (Value.int .i64) (Sort.ahead w n) p 0 (l.mergeSort λx d=>decide (x<=d)).toArray) os).ownsRow base 2 1 (.slice (j_ p) l.length t) l.length ((l.mergeSort λx d=>decide (x<=d)).map (Value.int .i64)) from λn os=>
   ⟨(H [p] w).grown (grownBy_sortedI _) (λae i=>by injection i with i;exact .inl (by simp[i])),ownsRow_sortedI (by rw[List.length_mergeSort]) V k hcl bC K⟩)
  have z:(l.mergeSort λx d=>decide (x<=d)).length=l.length:=List.length_mergeSort l;have bp:=U (zy l);have af:=U (show ∀w',I [p] w w'->Fx base [119,2] w w' from λw' hg=>Fx.one hg k V J);clear L K k u F;generalize (l.mergeSort λx d=>decide (x<=d))=ss at*
  go_enter func70,ntmps70
  go_wp2_with fail
  go_at_call 107
  refine v.out.mono ?_;rintro e b⟨rfl,n,os,G⟩;obtain⟨C,P⟩:=bu.out n os;rw[<-G]at C P;clear G;have ag:=r.gr C (zu bJ);have MU:=ag.f_ 0;obtain⟨o,ah,cw,a,s,f,ai,ak,Z,al⟩:=P.2.resolve_left (λq=>by cases q.1);injection a with a _ am;injection a with a;injection a with a;subst a;subst am;have u:Holds (Value.int .i64) b p 0 ss.toArray:=holds_of_blockI f (by rw[z];simpa using al);have m:=AnyG.slices_Compact_int C_ p 0 t ss b u X X;rw[z]at m;have m:=U m
  go_wp2_with fail
  go_at_call 108
  refine m.out.mono ?_;rintro e W⟨rfl,q,N⟩
  have cG:(compact ss).length<=l.length:=by
   rw[<-z]
   have:=(Gx (keeps ss.toArray) (List.range ss.length))
   unfold compact compactUpTo;simp at this |-;exact this
  have y:W=grow (putRow (Value.int .i64) (Sort.ahead b q) p 0 (compact ss++List.replicate (l.length-(compact ss).length) 0).toArray) #[]:=by rw[Eg,N]
  have M0:I [p] b W:=by
   rw[y];exact(H [p] b).grown (grownBy_sortedI _) (λae i=>by injection i with i;exact .inl (by simp[i]))
  have T:=ownsRow_sortedI (w:=b) (n:=q) (os:=#[]) (base:=base) (ss:=ss) (ts:=compact ss++List.replicate (l.length-(compact ss).length) 0) p_ s f X ak Z;rw[<-y]at T;clear N y;go_wp2;rw[O.out,<-bp.out];refine⟨j_ p,t,rfl,?_,X,(af.out b C).trans (Fx.one M0 f s J)⟩;have Y:=Sl.iR T;refine⟨J,λR=>?_⟩;obtain⟨an,off,cs,fz,hA,S,hc⟩:=Y.2 X;refine⟨an,off,cs,fz,hA,S,λj ao D=>hc j ao ?_⟩
  rw[FV,GH (by
   rcases FW j ((compact ss).map (Value.int .i64)).length with h|h
   .exact h
   .rw[F2 h]at D
    cases D)]
  exact D
end
section
variable{w w' a:World}{e:TypeId}{A:OA}
def En{l:List Cl}(h:Sl w e 4 A l.length (l.flatMap Cl.E)){k:Nat}(hk:k<l.length):∃b off,A=some (Z b off)/\w.cell? (Z b (off+k*4))=some (Y l[k].id)/\w.cell? (Z b (off+k*4+1))=some (Y l[k].f)/\w.cell? (Z b (off+k*4+2))=some (.bool l[k].v.r)/\w.cell? (Z b (off+k*4+3))=some (Y l[k].v.n):=Li
def Em{l:List Dl}(h:Sl w e 5 A l.length (l.flatMap Dl.E)){k:Nat}(hk:k<l.length):∃b off,A=some (Z b off)/\w.cell? (Z b (off+k*5))=some (Y l[k].id)/\w.cell? (Z b (off+k*5+1))=some (Y l[k].f)/\w.cell? (Z b (off+k*5+2))=some (Y l[k].op)/\w.cell? (Z b (off+k*5+3))=some (.bool l[k].v.r)/\w.cell? (Z b (off+k*5+4))=some (Y l[k].v.n):=K1
def DZ{l:List Tk}(h:Sl w e 48 A l.length (l.flatMap λt=>t.g_.toList)){k:Nat}(m:k<l.length):∃b c,A=some (Z b c)/\∀j,j<48->w.cell? (Z b (c+k*48+j))=(l[k]).g_[j]?:=by
 obtain⟨b,c,hA,hc⟩:=Sl.row (E:=λt:Tk=>t.g_.toList) (λ_=>rfl) h m;refine⟨b,c,hA,λj i=>?_⟩
 have d:j<(l[k]).g_.size:=by rw[Tk.size];exact i
 rw[FR d,Hl];exact hc j _ (by simp[d])
end
structure zL(w:World)(t:Tk):Prop where
 gs:∃e,Sl w e 4 t.gs.A t.gs.l.length (t.gs.l.flatMap Cl.E)
 rs:∃e,Sl w e 4 t.rs.A t.rs.l.length (t.rs.l.flatMap Cl.E)
 ws:∃e,Sl w e 4 t.ws.A t.ws.l.length (t.ws.l.flatMap Cl.E)
 ds:∃e,Sl w e 5 t.ds.A t.ds.l.length (t.ds.l.flatMap Dl.E)
 nw:∃e,sC e w t.nw.A t.nw.l
 nr:∃E,qs E w t.nw.l
def lh.e{w:World}{t:Tk}(h:lh w t):zL w t:=⟨⟨_,h.gs⟩,⟨_,h.rs⟩,⟨_,h.ws⟩,⟨_,h.ds⟩,⟨_,h.nw.e⟩,⟨_,h.nr.e⟩⟩
def FE{rest:List Oper}{o:Oper}{a:Act}{w:World}{b off:Nat}{t:Tk}(hc:∀j,j<48->w.cell? (Z b (off+j))=t.g_[j]?)(h:wpList prog ops Q rest (a.put o.dst (.agg t.g_)) w)(L:o.guard=none:=by rfl)(ho:o.op=.load 53 x:=by rfl)(hx:a.eval x=.pointer (some (Z b off)):=by rfl):wpList prog ops Q (o::rest) a w:=
 wpList_plain L λ_ MY=>wp_load_mid 53 x ho b off hx t.g_.toList _ (λj v hj=>by
  have af:j<48:=by
   rcases FW j 48 with h|h
   .exact h
   .rw[F2 (by show 48<=j;exact h)]at hj
    cases hj
  rw[hc j af]
  simpa using hj) underlying53 rfl k_ (MY _ _ h)
def xB{e:TypeId}{c:Nat}{l R L:List Int}{cs:List Cl}{A:OA}{a w:World}(h:GA base w g l)(ha:a.heap.size<=base)(aC:I [] a w)(hc:Sl a e 4 A cs.length (cs.flatMap Cl.E))(hb:base<=w.heap.size)(P:l++(ld cs++R)=L)(hn:L.length<=1000000000)(hcl:cs.length<=1000000000):
 Calls prog 68 #[q_ g,.slice A cs.length c] w λe w'=>e=.returned (.tuple #[])/\(∃T,GA base w' g T/\T++R=L)/\Fx base [119,2] w w':=by
 refine h5 λQ aq=>?_
 go_enter func68,ntmps68
 go_wp2;have bl:=U P;clear P
 go_loopw [8] (λy wr=>∃(b:Nat) (r:List Int),b<=cs.length/\y=Y b/\GA base wr g r/\Hid (r++(ld (cs.drop b)++R)=L)/\Fx base [119,2] w wr) (λy _=>cs.length-(intOf y).toNat)
 case atStart=>exact⟨0,l,N_ _,gn,h,U bl.out,.js (H _ _)⟩
 case round=>
  clear h;obtain⟨b,r,hk,rfl,hA,B,k⟩:=hrel
  by_cases D:b<cs.length
  .obtain⟨ad,off,ae,G,K,E,F⟩:=En hc D;subst ae;have d:=k.gr a ha aC;have MV:=d.f_ G J;have MU:=d.f_ K J;have au:=d.f_ E J;have aP:=d.f_ F J
   have N:=U (show((r++[cs[b].id])++qh cs[b].v)++(ld (cs.drop (b+1))++R)=L by
    have e:=B.out;rw[Q_ D]at e;rw[<-e]
    simp only[ld,Ga,Gc,Hq,FY])
   have iN:=Z_ List.length N.out;simp only[J_,FK,F7]at iN;generalize cs[b]=x at*;clear G K E F;have m:=P_ wr 116 #[Y x.id,Y x.f,.bool x.v.r,Y x.v.n];have t:=(H [] wr).alloc (.cells #[Y x.id,Y x.f,.bool x.v.r,Y x.v.n] 116);obtain⟨i,O,aW,aM⟩:∃i O,wr.alloc (.cells #[Y x.id,Y x.f,.bool x.v.r,Y x.v.n] 116)=i/\wr.heap.size=O:=⟨_,_,rfl,rfl⟩;rw[aW]at m t;rw[aM]at m;have z0:=m.f_ 0;have z:=hA.hF t
   have M:base<=i.heap.size:=by have:=k.size;have:=t.size;omega
   have u:=(H [] i).alloc (.cells #[Y x.id] 2);have C:=U (pD (c:=1) (z.hF u) (Ls.one i x.id) p_ (by simp only[FK,F7];omega));have j:=m.hF u;have f:=(k.trans (.js t)).trans (.js u);clear hA z m k d
   go_wp2_with fail
   go_at_call 67
   refine C.out.mono ?_;rintro e w2⟨rfl,q,s⟩;have V:=s.bk j;have aZ:=V.f_ 2;have z3:=V.f_ 3;have S:=f.trans s;have W:=U (tx (v:=x.v) q (ov S.size) p_);clear q j f C
   go_wp2_with fail
   go_at_call 69
   refine W.out.mono ?_;rintro e ag⟨rfl,bC,Z⟩;go_wp2;go_roundw
   case rel=>exact⟨b+1,_,X,gn,bC,N,S.trans Z⟩
   case measure=>exact mz
  .go_wp2;refine en_ ?_;rw[aq.out];have e:=B.out;rw[GD X]at e;exact⟨rfl,⟨r,hA,by simpa[ld]using e⟩,k⟩
section
open Go.RowKit Go.Maps
def FM(w:World)(M n:Nat)(f:Int->Bool):Prop:=
 ∃D:DataW Unit,w.ownsMap prog 2 (plainElem prog 4) M n D/\IsMap D/\(∀id:Int,(Lit.int .i64 id).wf=true->D.atKey (Lit.int .i64 id) (.lit (.bool false))=.lit (.bool (f id)))/\qZ D (λx=>f x=true)
section
variable{w w':World}{M n:Nat}{f:Int->Bool}
def FM.bm(h:FM w M n f):Bm w M n f:=by
 obtain⟨b,c,d,i,_⟩:=h;exact⟨b,c,d,i⟩
def FM.iz(h:FM w M n f)(hb:w'.heap[M]?=w.heap[M]?):FM w' M n f:=LW
def FM.hF(h:FM w M n f)(b:I [] w w'):FM w' M n f:=h.iz (b.block M h.bm.lt J)
def FM.not(h:FM w M n f)(cs:Array Value)(t:TypeId)(b:Nat × Nat):w.heap[M]?≠some (.cells cs t b):=by
 obtain⟨i,⟨k,m,c,_⟩,_⟩:=h;rw[c];intro d
 cases d
def FM.made(w:World):FM (w.alloc (.map #[] 0)) w.heap.size 0 (λ_=>false):=
 ⟨.map [],World.ownsMap_made w _ _ _,⟨[],rfl⟩,λid _=>rfl,qZ.empty.congr λx=>J⟩
def FM.update(h:FM w M n f)(u:n<maxLen){id:Int}(d:(Lit.int .i64 id).wf=true):
 ∃w',(Instr.mapUpdate 105 (.map (some M)) (Y id) (.bool true)).run prog w=.ok () w'/\FM w' M (n+1) (λi=>if i=id then true else f i)/\w.grownBy w' (some M):=by
 obtain⟨v,t,b,h3,m⟩:=h;obtain⟨w',c,r,q⟩:=t.update (int_keyed underlying2) underlying105 u (keyOf_int_mk underlying2 d) (plainElem_bool underlying4 true);refine⟨w',c,⟨_,r,b.put _ _,λi hi=>?_,(m.put id _).congr λx=>?_⟩,q⟩
 .by_cases he:i=id
  .subst he
   show _=DataW.lit (.bool (if i=i then true else f i))
   rw[U_ rfl];exact atKey_put_same (k:=Lit.int .i64 i) b trivial _ _
  .show _=DataW.lit (.bool (if i=id then true else f i))
   exact LL
 .by_cases he:x=id<;>simp[he]
def FM.bk(h:FM w M n f)(d:I [M] w w'){t:TypeId}{cs:Array Value}(b:Bk w g t cs):Bk w' g t cs:=
 b.gr d (λc=>by rw[I_]at c;subst c;exact h.not _ _ _ b)
def FM.sl(h:FM w M n f)(t:I [M] w w'){e:TypeId}{m:Nat}{A:OA}{k:List Value}(d:Sl w e s A m k):Sl w' e s A m k:=
 ⟨d.1,λu=>by
   obtain⟨c,v,q,r,hA,b,hc⟩:=d.2 u
   exact⟨c,v,q,r,hA,(t.block c (la b) (λi=>by rw[I_]at i;subst i;exact h.not _ _ _ b)).trans b,hc⟩⟩
end
def xk{fs:List Vl}(b:j<fs.length):rL (fs.take (j+1))=rL (fs.take j)++(if fs[j].r=true then[fs[j].n] else[]):=by
 rw[T_ b];unfold rL;rw[Hd,FV];split<;>simp_all
structure VM(bh bf bv M:Nat)(hA:OA)(hc:Nat)(l:List Rw)(w:World):Prop where
 b1:Bk w bh 35 #[.slice hA l.length hc]
 b2:Bk w bf 105 #[.map (some M)]
 b3:Bk w bv 129 #[.func (.func 74) #[] #[q_ bh,q_ bf,q_ bv]]
 os:∃e,sC e w hA l
 k5:∃E,qs E w l
section
variable{bh bf bv M hc nn:Nat}{hA:OA}{l:List Rw}{f:Int->Bool}{w w':World}
def VM.hF(v:VM bh bf bv M hA hc l w)(b:I [] w w'):VM bh bf bv M hA hc l w':=
 ⟨v.b1.hF b,v.b2.hF b,v.b3.hF b,let⟨e,h⟩:=v.os;⟨e,h.hF b⟩,let⟨e,h⟩:=v.k5;⟨e,h.hF b⟩⟩
def VM.gr(v:VM bh bf bv M hA hc l w)(h:FM w M nn f)(b:I [M] w w'):VM bh bf bv M hA hc l w':=
 ⟨h.bk b v.b1,h.bk b v.b2,h.bk b v.b3,let⟨e,c⟩:=v.os;⟨e,h.sl b c⟩,let⟨e,c⟩:=v.k5;⟨e,λi d=>⟨h.sl b (c i d).1,(c i d).2⟩⟩⟩
def BS(M:Nat)(h:List Ob)(id:Int)(f:Int->Bool)(K:Nat)(w:World)(e:Ending)(w':World):Prop:=
 ∃(nn:Nat) (u:Int->Bool),e=.returned (.tuple #[])/\FM w' M nn u/\q4 h [id] (f · =true) (u · =true)/\nn+tX h (u · =true)<=K/\I [M] w w'
def visit_any(hn:l.length<=1000000000)(h0:(0:Int)∉iF (hX l))(aE:∀x∈iF (hX l),mQ x){K:Nat}(MY:K<=1000000000):∀(n:Nat) (f:Int->Bool) (nn:Nat) (id:Int) (w:World),tX (hX l) (f · =true)<n->VM bh bf bv M hA hc l w->FM w M nn f->nn+tX (hX l) (f · =true)<=K->
 Calls prog 74 #[Y id,q_ bh,q_ bf,q_ bv] w (BS M (hX l) id f K w)
 |0,_,_,_,_,G,_,_,_=>FU G (Nat.not_lt_zero _)
 |n+1,f,nn,id,w,G,r,hf,M0=>by
  refine h5 λQ V=>?_
  have ap:=U (visit_any hn h0 aE MY n);have MV:=r.b1.f_ 0;obtain⟨_,aj⟩:=r.os;obtain⟨_,cg⟩:=r.k5;have D:=U (zl hA hc l id w aj cg hn)
  have am:=U (show ∀o,jl (hX l) id=some o->o.fs.length<=1000000000 from λo ho=>by
   obtain⟨al,hr,rfl⟩:=FQ.1 (nN ho)
   exact(cg al hr).2)
  clear aj cg;have az:=U r;have an:=U hf;have v:=U M0;have av:=U G;clear r hf M0 G
  go_enter func74,ntmps74
  go_wp2_with fail
  go_at_call 60
  refine D.out.mono ?_;rintro e w1(⟨i,rfl,hg1⟩|⟨o,A1,c1,i,rfl,hv1,hg1⟩)
  .have HG:=U (show id∉iF (hX l) from λaw=>by obtain⟨o,e⟩:=nt.1 aw;rw[i]at e;cases e);clear i;go_wp2;refine rn_ ?_;rw[V.out];have b:=hg1.alloc (.cells #[Y 0,n_] 56);exact⟨nn,f,rfl,an.out.hF b,q4.skip λc=>FU c HG.out,v.out,(H [M] w).hJ b J⟩
  .have hid:id∈iF (hX l):=nt.2 ⟨o,i⟩;have A:=aE id hid;have MX:=am.out o i;have HG:=U i;have ai:=U hid;clear i hid D;obtain⟨ay,g,aW,bF,u,hB⟩:=box1 w1 56 #[Y o.id,.slice A1 o.fs.length c1];have d:=an.out.hF (hg1.trans u);have W:=az.out.hF (hg1.trans u);have bT:=d.bm.lookup A;have z0:=W.b2.f_ 0
   cases q:f id with
   |true=>
    rw[q]at bT;have b:=U q;clear q hB;go_wp2;refine rn_ ?_;rw[V.out];exact⟨nn,f,rfl,d,q4.skip λ_=>b.out,v.out,(H [M] w).hJ (hg1.trans u) J⟩
   |false=>
    rw[q]at bT
    have aA:∀x,(if x=id then true else f x)=true↔(f x=true∨x=id):=λx=>by by_cases e:x=id<;>simp[e]
    have bu:=U aA;have hl1:tX (hX l) (λx=>f x=true∨x=id)<tX (hX l) (f · =true):=Dq ai.out (by rw[q];decide);have ak:=U hl1;obtain⟨O,aC,s,k⟩:=d.update (by have:=v.out;unfold maxLen;omega) A;have k:I [M] ay O:=(H [M] ay).grown k (λaD hk=>by injection hk with hk;exact .inl (by simp[hk]));have aF:=W.gr d k;have c:Vs O A1 o.fs:=d.sl k (hv1.hF u);have m:=d.bk k hB;have MU:O.cell? (Z g 1)=some (.slice A1 o.fs.length c1):=m.f_ 1;have ct:I [M] w O:=((H [M] w).hJ (hg1.trans u) J).trans k;have p:=U (show nn+1+tX (hX l) (λx=>f x=true∨x=id)<=K by have:=v.out;omega)
    have aJ:=U (show ∀b:Int->Bool,(∀x,(f x=true∨x=id)->b x=true)->tX (hX l) (b · =true)<n from λb aM=>by
     have:=Dr (h:=hX l) aM
     have:=av.out
     omega)
    clear hl1 q aA hB m W d av
    go_wp2_with fail
    go_loopw [27] (λT wr=>∃(j a:Nat) (b:Int->Bool),j<=o.fs.length/\T=Y j/\FM wr M a b/\Hid (a+tX (hX l) (b · =true)<=K)/\Hid (q4 (hX l) (rL (o.fs.take j)) (λx=>f x=true∨x=id) (b · =true))/\VM bh bf bv M hA hc l wr/\Vs wr A1 o.fs/\I [M] w wr) (λT _=>o.fs.length-(intOf T).toNat)
    case atStart=>exact⟨0,nn+1,_,N_ _,by go_num,s,U (by have:=p.out;have e:tX (hX l) (λx=>(if x=id then true else f x)=true)=tX (hX l) (λx=>f x=true∨x=id):=Z_ _ (funext λx=>propext (bu.out x));omega),U ((q4.nil _ _).congr (λ_=>Iff.rfl) λx=>(bu.out x).symm),aF,c,ct⟩
    case round=>
     clear s aF c ct MU aC bT z0;obtain⟨j,a,b,hj,rfl,F,S,z,L,c,y⟩:=hrel
     by_cases bw:j<o.fs.length
     .obtain⟨aN,off,ae,bY,br⟩:=c.at_ bw;subst ae;have bR:=U (xk bw);generalize o.fs[j]=t at*;have z3:=L.b3.f_ 0;obtain⟨aI,aO,cf,ar,N,m⟩:=box1 wr 38 #[.bool t.r,Y t.n];obtain⟨bq,bo⟩:=m.iC;have B:=F.hF N;have E:=L.hF N;have aP:=c.hF N;have aR:=y.trans ((H [M] wr).hJ N J);have z4:=E.b3.f_ 0
      cases C:t.r with
      |false=>
       rw[C]at bq bY cf;have aU:=U (show q4 (hX l) (rL (o.fs.take (j+1))) (λx=>f x=true∨x=id) (b · =true) by rw[bR.out,C];simpa using z.out);clear F L c y m;go_wp2;go_roundw
       case rel=>exact⟨j+1,a,b,by omega,by go_num,B,S,aU,E,aP,aR⟩
       case measure=>simp[intOf];omega
      |true=>
       rw[C]at bq bY cf;have D:=U (ap.out b a t.n aI (aJ.out b z.out.up) E B S.out)
       have aU:=U (show ∀R,q4 (hX l) [t.n] (b · =true) R->q4 (hX l) (rL (o.fs.take (j+1))) (λx=>f x=true∨x=id) R from λR aw=>by
        rw[bR.out,C,U_ rfl]
        exact z.out.app aw)
       clear F L c y m
       go_wp2_with fail
       go_at_call 74
       refine D.out.mono ?_;unfold BS;rintro e MT⟨aK,f5,rfl,aV,bn,aX,P⟩;have aQ:=E.gr B P;have ax:Vs MT (some (Z aN off)) o.fs:=B.sl P aP;have ad:=U (aU.out _ bn);have MS:=U aX;clear bn aX;go_wp2;go_roundw
       case rel=>exact⟨j+1,aK,f5,by omega,by go_num,aV,MS,ad,aQ,ax,aR.trans P⟩
       case measure=>simp[intOf];omega
     .go_wp2;refine rn_ ?_;rw[V.out];have t:=z.out;rw[FP X]at t;exact⟨a,b,rfl,F,q4.node HG.out h0 t,S.out,y⟩
end
end
section
open Go.RowKit Go.Maps
def y9{T:List TypeId}{w w':World}{R:Value->Option (DataW Unit × List MemPlace)}{b r n:Nat}{c:DataW Unit}{i:Lit->Bool}{o:Nat}(h:w.ranges prog 2 R b r n c i o)(d:Fx base T w w'):w'.ranges prog 2 R b r n c i o:=by
 obtain⟨v,E,t,q,m,B,k,D,z,C,rest⟩:=h;exact⟨v,E,t,q,m,d.iz b _ B (λu F y e=>by cases e),k,D,z,d.iz r _ C (λu F y e=>by cases e),rest⟩
def Ay(y x:Int):(Lit.int .i64 y).sameKey (Lit.int .i64 x)=decide (y=x):=by
 by_cases h:y=x
 .subst h;rw[Gd rfl];exact WideAt.sameKey_self (by simp[WideAt.IsKeyLit])
 .rw[GX h]
  cases e:(Lit.int .i64 y).sameKey (Lit.int .i64 x)with
  |false=>rfl
  |true=>have:=WideAt.sameKey_eq e;injection this with _ this;exact FU this h
def GA.grn{r:Nat}{w w':World}{l:List Int}(h:GA base w g l)(i:∀cs t b,w.heap[r]?≠some (.cells cs t b))(d:I [r] w w'):GA base w' g l:=by
 obtain⟨q,A,m,c,u⟩:=h;exact⟨q,A,m,c.gr d (λk=>by rw[I_]at k;subst k;exact i _ _ _ c),ku u (λcs b=>i cs 2 b) d⟩
def xn{E:Rw->TypeId}{bp:TypeId}(hA:OA)(hc:Nat)(l:List Rw)(RA:OA)(R:Nat)(rs:List Int)(w:World)(av:sC aT w hA l)(hR:qs E w l)(hn:l.length<=50000000)(h0:(0:Int)∉iF (hX l))(aE:∀x∈iF (hX l),mQ x)(aD:Sl w bp 1 RA rs.length (zs rs))(bJ:rs.length<=1000000000):
 Calls prog 35 #[.agg #[.slice hA l.length hc],.slice RA rs.length R] w (lz (qj (hX l) rs) w):=by
 refine h5 λQ aq=>?_
 have aF:= @run_makeMap prog;obtain⟨r,g,aW,hg,d,hB⟩:=box1 w 35 #[.slice hA l.length hc];have aS:FM (r.alloc (.map #[] 0)) r.heap.size 0 (λ_=>false):=FM.made r;obtain⟨am,b9⟩:=mn_ (r.alloc (.map #[] 0));obtain⟨M,al⟩:=mn_ r.heap.size
 have j:I [] r am:=by rw[<-b9];exact(H [] r).alloc _
 have bL:w.heap.size<=M:=ov d.size;rw[b9,al]at aS;obtain⟨B,bf,bv,bE,bt,aj,a,br,F⟩:=tJ am 105 #[.map (some M)] 129 #[.nilFunc];have aV:=F.f_ 0;have bB:=F.hG 0;have G:I [bv] B (B.setCell (Z bv 0) (.func (.func 74) #[] #[q_ g,q_ bf,q_ bv])):=(H [bv] B).setCell (p:=Z bv 0) (.inl J) _
 go_enter func35,ntmps35
 go_upto_region 4 with fail
 have V:=aS.hF a;have ag:FM (B.setCell (Z bv 0) (.func (.func 74) #[] #[q_ g,q_ bf,q_ bv])) M 0 (λ_=>false):=V.iz (G.block M V.bm.lt (λq=>by rw[I_]at q;subst q;exact V.not _ _ _ F));have bQ:=F.hV 0 (.func (.func 74) #[] #[q_ g,q_ bf,q_ bv]);have aN:=(d.trans j).trans a
 have bK:w.heap.size<=bv:=by have:=d.size;have:=j.size;omega
 have A:=aN.hJ G (λb N=>.inr (by rw[I_]at N;omega))
 have ar:g≠bv:=by have:=hB.lt;have:=j.size;omega
 have an:bf≠bv:=X;have k:VM g bf bv M hA hc l (B.setCell (Z bv 0) (.func (.func 74) #[] #[q_ g,q_ bf,q_ bv])):=⟨((hB.hF j).hF a).gr G (zu ar),br.gr G (zu an),by simpa using bQ,⟨_,av.hF A⟩,⟨_,hR.hF A⟩⟩;clear hB br F bQ d j a G aN aS V aV bB aF ar an;obtain⟨aI,cf⟩:=nm_ (B.setCell (Z bv 0) (.func (.func 74) #[] #[q_ g,q_ bf,q_ bv]));rw[<-cf]at ag A k |-;clear cf bE b9 aW hg bt aj al;have h:=U (show tX (hX l) (λx=>(λ_=>false) x=true)<=(hX l).length from B6);have bA:(hX l).length=l.length:=h7 l
 go_wp2_with fail
 go_loopw [15] (λah wr=>∃(i nn:Nat) (f:Int->Bool),i<=rs.length/\ah=Y i/\FM wr M nn f/\Hid (nn+tX (hX l) (f · =true)<=(hX l).length)/\Hid (q4 (hX l) (rs.take i) (λ_=>False) (f · =true))/\VM g bf bv M hA hc l wr/\I [] w wr) (λah _=>rs.length-(intOf ah).toNat)
 case atStart=>exact⟨0,0,_,N_ _,gn,ag,U (ov h.out),U ((q4.nil _ _).congr (λ_=>Iff.rfl) λx=>J),k,A⟩
 case round=>
  clear ag h k A;obtain⟨i,nn,f,C,rfl,aY,a2,z,k,d⟩:=hrel;have z3:=k.b3.f_ 0
  by_cases af:i<rs.length
  .obtain⟨aA,off,bd,ae,m,u⟩:=Sl.at_ aD af
   have dP:bd=Y rs[i]:=by
    have:(zs rs)[i]?=some (Y rs[i]):=by simp[K_ af]
    rw[this]at m;injection m with m;exact m.symm
   subst dP;subst ae;have MU:=d.f_ u J;have bR:=U (T_ af);generalize rs[i]=x at*;have D:=U (visit_any (M:=M) (K:=(hX l).length) X h0 aE X (tX (hX l) (f · =true)+1) f nn x wr (Nat.lt_succ_self _) k aY a2.out);clear u m
   go_wp2_with fail
   go_at_call 74
   refine D.out.mono ?_;unfold BS;rintro e MT⟨P,L,rfl,y,v,t,S⟩;have T:=k.gr aY S;have W:=U (show q4 (hX l) (rs.take (i+1)) (λ_=>False) (L · =true) by rw[bR.out];exact z.out.app v);have O:=U t;have c6:I [] w MT:=d.hJ S (λb N=>.inr (by rw[I_]at N;omega));clear v t;go_wp2;go_roundw
   case rel=>exact⟨i+1,P,L,X,gn,y,O,W,T,c6⟩
   case measure=>exact mz
  .have L:=z.out;rw[FP X]at L;have aU:=U (show ∀x,f x=true↔uc (hX l) (· ∈rs) x from λx=>L.reach x);obtain⟨P,bk,bI,dX,n,bm⟩:=box1 wr 119 #[n_];have W:GA w.heap.size P bk []:=⟨ov d.size,none,0,bm,Zr.nil⟩;have aO:=k.hF n;have au:=aO.b2.f_ 0;obtain⟨v,ak,_,_,bx⟩:=aY.hF n
   have aP:Maps.size v<=l.length:=by
    have h1:=bx.size (ys:=qj (hX l) rs) ⟨(kn _ _).lt,λx=>((kn (hX l) rs).mem x).trans (aU.out x).symm⟩;rw[h1,<-h7 l]
    have:=oz (qj (hX l) rs) (l:=iF (hX l)) (kn _ _).nodup λx L=>(((kn (hX l) rs).mem x).1 L).ids
    simpa[iF]using this
   have s:=d.trans n;clear k aY L z a2 bm aO z3
   go_wp2_with (first|(at_range;refine wpList_range_own _ rfl _ 105 rfl 2 4 (int_keyed underlying2) underlying105 (plainElem prog 4) M nn v rfl ak ?_;intro w0 ay bg aC)|go_in)
   obtain⟨u,hr⟩:=nm_ P.heap.size
   have bG:w.heap.size<=u:=by have:=d.size;have:=n.size;omega
   rw[<-hr]at ay |-;clear hr aC au;have ap:I [] P w0:=(H [] P).grown bg (λi C=>by cases C);have W:=W.hF ap;have aM:=s.trans ap;have bS:=U (show ∀x,Maps.has v (Lit.int .i64 x)=true↔f x=true from bx.has);have aL:=U aP;clear bg ap ak bx aP s n d
   go_frame
   go_loopw [10] (λah wr=>∃(t:Lit->Bool) (o:Nat) (m:List Int),wr.ranges prog 2 (plainElem prog 4) M u nn v t o/\GA w.heap.size wr bk m/\Hid (∀x,x∈m↔f x=true/\t (Lit.int .i64 x)=false)/\Hid (∀x,t (Lit.int .i64 x)=true->f x=true)/\m.length+o<=Maps.size v/\I [] w wr) (λ_ wr=>wr.rangeLeft M u)
   case atStart=>exact⟨_,_,[],ay,W,U (λx=>⟨λq=>(by cases q),λq=>by rw[(bS.out x).2 q.1]at q;cases q.2⟩),U (λx q=>(bS.out x).1 q),J,aM⟩
   case round=>
    clear ay W aM;obtain⟨t,o,m,T,hA,z,bu,cF,d⟩:=hrel;have aH:=U T
    go_upto_region 12 with(at_next;refine wpList_next_ranges _ rfl _ rfl 2 (int_keyed underlying2) (plainElem prog 4) (Value.int .i64) Value.bool (λbM bN bw=>by obtain⟨x,rfl,_⟩:=Maps.keyOf_int_inv underlying2 bw;exact⟨x,rfl⟩) (λbO b hv=>by obtain⟨c,rfl,_⟩:=nJ underlying4 hv;exact⟨c,rfl⟩) M u nn v t o rfl aH.out (λbj hl0=>?_) (λx c bN b O bo bZ hl1 hv1 bq a6 aZ hg1 bV bz=>?_))
    .have bl:=U hl0;clear hl0 T;have bH:=aL.out;have D:=U (rW hA X d.size)
     go_wp2_with (go_at_call 70;refine D.out.mono ?_;rintro e MT⟨a8,c5,rfl,ai,bC,y⟩)
     rw[aq.out]
     have he:mR m=qj (hX l) rs:=Asc.eq (ll m) ⟨(kn _ _).lt,λx=>by
      rw[(kn (hX l) rs).mem,<-aU.out,z.out,bl.out]
      simp⟩
     rw[<-he];exact⟨a8,c5,rfl,ai,bC,y.gr w (H_ _) d⟩
    .obtain⟨x',ex,rfl,az⟩:=Maps.keyOf_int_inv underlying2 bZ
     cases ex
     have aw:I [u] wr O:=(H [u] wr).grown hg1 (λi C=>by injection C with C;exact .inl (by simp[C]))
     have ae:GA w.heap.size O bk m:=hA.grn (λcs bP fz q=>by
      obtain⟨es,bT,bi,be,aB,_,_,_,_,hr,_⟩:=T;rw[hr]at q
      cases q) aw
     have j:I [] w O:=d.hJ aw (λb N=>.inr (by rw[I_]at N;omega));have M0:=(H [] O).alloc (.cells #[Y x] 2);have a:=j.trans M0;have bH:=aL.out;have D:=U (pD (c:=1) (ae.hF M0) (Ls.one O x) a.size (by simp only[FK,F7];omega));have bF:=a6.alloc (.cells #[Y x] 2);have HM:Hid (wr.rangeLeft M u=o):=U aH.out.left_eq
     have bU:=U (show ∀b,b∈m++[x]↔f b=true/\(t (Lit.int .i64 b)&& !(Lit.int .i64 b).sameKey (Lit.int .i64 x))=false from λb=>by
      rw[X_,z.out,I_,Ay]
      by_cases e:b=x
      .subst e;simp[bu.out _ hl1]
      .simp[e])
     have aJ:=U (show ∀b,(t (Lit.int .i64 b)&& !(Lit.int .i64 b).sameKey (Lit.int .i64 x))=true->f b=true from λb q=>bu.out b (by simp at q;exact q.1));clear T a6 hA ae d j M0 aw hg1 bV hl1 bZ hv1 bq
     go_wp2_with (go_at_call 67;refine D.out.mono ?_;rintro e MT⟨rfl,ax,y⟩)
     have a7:=y9 bF y;have S:=y.gr w (H_ _) a;go_roundw
     case rel=>exact⟨_,bo,_,a7,ax,bU,aJ,p_,S⟩
     case measure=>rw[a7.left_eq,HM.out];omega
end
def o4(p:Nat)(w:World)(l:List Rw):Prop:=∃cur,Bk w p 56 cur/\∀(i:Nat) (u:Value),(iV l)[i]?=some u->cur[i]?=some u
section
variable{p:Nat}{w w':World}{l:List Rw}
def o4.os(h:o4 p w l):Os w (j_ p) l:=by
 obtain⟨b,c,hc⟩:=h;exact⟨ln l,λ_=>⟨p,0,b,(0,0),rfl,c,λj i d=>by rw[W_];exact hc j i d⟩⟩
def o4.hF(h:o4 p w l)(d:I [] w w'):o4 p w' l:=by
 obtain⟨b,c,hc⟩:=h;exact⟨b,c.hF d,hc⟩
def o4.fr(h:o4 p w l)(i:Nat):w.frozen? (Z p i)=false:=by
 obtain⟨c,b,_⟩:=h;exact b.hG i
def o4.set(h:o4 p w l){k:Nat}(m:k<l.length)(r:Rw):o4 p ((w.setCell (Z p (k*2)) (Y r.o.id)).setCell (Z p (k*2+1)) (.slice r.A r.o.fs.length r.c)) (l.set k r):=by
 obtain⟨B,c,hc⟩:=h;have i:=pP Rw.E (λ_=>rfl) m r (Y r.o.id) (.slice r.A r.o.fs.length r.c) rfl c hc l.length rfl;have b:=(c.hV (k*2) (Y r.o.id)).hV (k*2+1) (.slice r.A r.o.fs.length r.c);obtain⟨y,D,z,C,hA,n,d⟩:=i.2 X;injection hA with hA;injection hA with hA q;subst hA;subst q;have e:=b.symm.trans n;injection e with e;injection e with e;exact⟨_,b,λu v t=>by rw[e];have:=d u v t;rwa [W_]at this⟩
def Bi(k:Nat)(x y:Value):I [p] w ((w.setCell (Z p (k*2)) x).setCell (Z p (k*2+1)) y):=
 ((H [p] w).setCell (p:=Z p (k*2)) (.inl J) x).setCell (p:=Z p (k*2+1)) (.inl J) y
def o4.vs(h:o4 p w l)(c:I [p] w w'){A:OA}{fs:List Vl}(d:Vs w A fs):Vs w' A fs:=by
 obtain⟨i,b,_⟩:=h;exact Sl.it d b O c
end
def xH{E:TypeId}(o:Ob)(A:OA)(c:Nat)(w:World)(h:xS E w A o.fs)(v:o.fs.length<=1000000000):
 Calls prog 158 #[.agg #[Y o.id,.slice A o.fs.length c]] w λe w'=>∃(A':OA) (c':Nat),e=.returned (.agg #[Y o.id,.slice A' o.fs.length c'])/\Vs w' A' o.fs/\I [] w w':=by
 obtain⟨id,d⟩:=o;simp only at h v |-;obtain⟨y,g,b,S,hg,L,t,u,F⟩:=tJ w 56 #[Y id,.slice A d.length c] 56 #[Y 0,n_];obtain⟨P,N⟩:=u.iC;have z:=U (rV A c d y (h.hF t) v)
 go_enter func158,ntmps158
 go_wp2_with fail
 go_at_call 151
 refine z.out.mono ?_;rintro e K⟨i,m,rfl,G,r⟩;have q:=u.hF r;obtain⟨z0,R⟩:=q.iC;have T:=q.hG 1;have k:=F.hF r;obtain⟨W,V⟩:=k.iC;have ce:=k.hG 0;have du:=k.hG 1;have B:b≠g:=X;go_wp2;have a:=k.ih (p:=Z g 1) B (.slice i d.length m);have C:=(a.hV 0 (Y id)).hV 1 (.slice i d.length m);have D:w.heap.size<=g:=X;refine rr_ #[Y id,.slice i d.length m] C underlying56 ⟨i,m,rfl,?_,?_⟩
 .exact Sl.it (Sl.it G q O ((H [g] K).setCell (p:=Z g 1) (.inl J) _)) a O (((H [b] _).setCell (p:=Z b 0) (.inl J) _).setCell (p:=Z b 1) (.inl J) _)
 .exact(((t.trans r).setCell (p:=Z g 1) (.inr D) _).setCell (p:=Z b 0) (.inr (by show w.heap.size<=b;omega)) _).setCell (p:=Z b 1) (.inr (by show w.heap.size<=b;omega)) _
def u7(A:OA)(c:Nat)(l:List Rw)(w:World)(h:sC aT w A l)(B:l.length<=1000000000):
 Calls prog 193 #[.slice A l.length c] w λe w'=>∃(A':OA) (c':Nat),e=.returned (.slice A' l.length c')/\l.length<=c'/\w'.ownsRow w.heap.size 56 2 (.slice A' l.length c') l.length (iV l)/\I [] w w':=by
 obtain⟨t,r,q,k,u⟩:=info_parts infoOb
 have m:=λi=>Lib.run_eql_slice_nil (P:=prog) i 33 56 A l.length c 0 0 underlying33
 rcases A with _|y
 .have h0:l.length=0:=LB;have d:l=[]:=FZ h0;subst d;simp only[F7]at m |-
  go_enter func193,ntmps193
  go_wp2;go_ret;exact⟨none,0,rfl,H_ _,iT _ _ _ _,H _ _⟩
 .generalize z:l.length=n at*
  go_enter func193,ntmps193
  go_wp2_with (at_builtin;refine iJ _ rfl (.tmp 5) (.tmp 6) 33 rfl w.heap.size 56 t _ 2 32 underlying33 r q k u rfl O O _ 0 0 [] rfl (uw _ _ _ _ _ J J) (some y) n c (iV l) rfl (by subst z;exact Sl.alloc h _) (jT l) X J ?_;intro d v C a f;simp only[W_,FY]at a)
  go_ret;refine⟨d,v,ot X,iY a,a,f.gr [] w X ((H _ w).alloc _)⟩
def Bz{E:Rw->TypeId}(A:OA)(c:Nat)(l:List Rw)(w:World)(h:sC aT w A l)(P:qs E w l)(hn:l.length<=1000000000):
 Calls prog 157 #[.slice A l.length c,.func (.func 158) #[] #[]] w λe w'=>∃(A':OA) (c':Nat) (d:List Rw),e=.returned (.slice A' l.length c')/\hX d=hX l/\l.length<=c'/\(0<l.length->∃p,A'=j_ p/\w.heap.size<=p/\o4 p w' d)/\l5 w' d/\I [] w w':=by
 refine h5 λQ aq=>?_
 have V:=U (u7 A c l w h hn)
 go_enter func157,ntmps157
 go_wp2_with fail
 go_at_call 193
 refine V.out.mono ?_;rintro e w1⟨R,c1,rfl,cG,cX,hg1⟩
 go_wp2_with fail
 go_loopw [12] (λG wr=>∃(b:Nat) (d:List Rw),b<=l.length/\G=Y b/\d.length=l.length/\Hid (hX d=hX l)/\d.drop b=l.drop b/\l5 wr (d.take b)/\(0<l.length->∃p,R=j_ p/\w.heap.size<=p/\o4 p wr d)/\I [] w wr) (λG _=>l.length-(intOf G).toNat)
 case atStart=>
  refine⟨0,l,N_ _,gn,rfl,U rfl,rfl,λi P=>by simp at P,λm=>?_,hg1⟩;obtain⟨p,k,hA,q,D,hc⟩:=kE cX m;exact⟨p,hA,q,k,D,hc⟩
 case round=>
  obtain⟨b,d,hi,rfl,ck,S,K,f,W,O⟩:=hrel
  by_cases u:b<l.length
  .obtain⟨p,hA,ar,L⟩:=W X;subst hA;have z:b<d.length:=X
   have N:d[b]=l[b]:=by
    have e:=K;rw[Q_ u,Q_ z]at e;injection e
   obtain⟨ad,off,hA,B,C⟩:=L.os.at_ z;injection hA with hA;injection hA with hA ae;subst hA;subst ae;obtain⟨hv,H⟩:=P.hF O l[b] (O_ u);rw[N]at B C;simp only[W_]at B C;have bp:=U N;clear N;have aK:=U K;clear K;obtain⟨i,a⟩:=mn_ l[b];have aU:=U a;rw[a]at hv H B C;clear a;obtain⟨ag,gb,aW,aM,m,D⟩:=box1 wr 56 #[Y i.o.id,.slice i.A i.o.fs.length i.c];obtain⟨MV,MU⟩:=D.iC;have aj:=U (xH i.o i.A i.c ag (hv.hF m) H);have Z:=L.hF m;have F:=f.hF m;have M0:=O.trans m;clear L f D V
   go_wp2_with fail
   go_at_call 158
   refine aj.out.mono ?_;rintro e w2⟨y,v,rfl,T,q⟩;have r:=Z.hF q;have aV:=q.f_ (m.f_ B J) J;have bq:=q.f_ (m.f_ C J) J;have bB:=r.fr (b*2);have bM:=r.fr (b*2+1);have df:=r.set z ⟨i.o,y,v⟩;have t:=Bi (p:=p) (w:=w2) b (Y i.o.id) (.slice y i.o.fs.length v);have aH:=r.vs t T
   have ak:l5 _ (d.take b):=λx k=>⟨r.vs t (F.hF q x k).1,(F.hF q x k).2⟩
   have MS:=(M0.trans q).hJ t (λal hy=>.inr (by rw[I_]at hy;omega));clear r t Z T F;go_wp2;go_roundw
   case rel=>
    refine⟨b+1,d.set b ⟨i.o,y,v⟩,X,gn,by simpa using ck,U ?_,?_,?_,λ_=>⟨p,rfl,ar,df⟩,MS⟩
    .rw[sv,S.out];apply HK;intro j;rw[H1];split
     .rename_i e;subst e
      have:(hX l)[b]?=some i.o:=by unfold hX;rw[Gf,K_ u,aU.out];rfl
      rw[this];simp[h7,u]
     .rfl
    .rw[Ih X,List.drop_add_one_eq_tail_drop,aK.out,<-List.drop_add_one_eq_tail_drop]
    .intro x k;rw[List.take_set,T_ z]at k;rw[Ib _ _ p_]at k
     rcases X_.1 k with k|k
     .exact ak x k
     .have:x=⟨i.o,y,v⟩:=by
       rw[Gj,Ia X,Nat.sub_self]at k
       simpa using k
      subst this;exact⟨aH,H⟩
   case measure=>exact mz
  .go_wp2;rw[aq.out];refine⟨R,c1,d,rfl,S.out,cG,W,?_,O⟩;rw[FP X]at f;exact f
def wh{E:Rw->TypeId}(A:OA)(c:Nat)(l:List Rw)(w:World)(h:sC aT w A l)(r:qs E w l)(S:l.length<=1000000000):
 Calls prog 111 #[.agg #[.slice A l.length c]] w λe w'=>∃(A':OA) (c':Nat) (b:List Rw),e=.returned (.agg #[.slice A' l.length c'])/\hX b=hX l/\l.length<=c'/\(0<l.length->∃p,A'=j_ p/\w.heap.size<=p/\o4 p w' b)/\l5 w' b/\I [] w w':=by
 refine h5 λQ F=>?_
 obtain⟨B,g,k,aW,hg,Y,i,P,v⟩:=tJ w 35 #[.slice A l.length c] 35 #[n_];have MV:=P.f_ 0;have C:=U (Bz A c l B (h.hF i) (r.hF i) S)
 go_enter func111,ntmps111
 go_wp2_with fail
 go_at_call 157
 refine C.out.mono ?_;rintro e u⟨d,q,b,rfl,T,K,D,f,y⟩;have m:=v.hF y;have bq:=m.f_ 0;have bB:=m.hG 0;go_wp2;have G:=m.hV 0 (.slice d l.length q);have t:I [k] u (u.setCell (Z k 0) (.slice d l.length q)):=(H [k] u).setCell (p:=Z k 0) (.inl J) _;refine rr_ #[.slice d l.length q] G underlying35 ?_;rw[F.out];refine⟨d,q,b,rfl,T,K,λN=>?_,λz r=>⟨Sl.it (f z r).1 m O t,(f z r).2⟩,(i.trans y).hJ t (λad W=>.inr (by rw[I_]at W;omega))⟩;obtain⟨p,hA,V,L,R,hc⟩:=D N;refine⟨p,hA,G_ i.size V,L,R.gr t (λX=>?_),hc⟩;rw[I_]at X
 have:=v.lt
 omega
def sZ{p k m c:Nat}{b:Array Value}{w:World}(u:Bk w p 56 b)(G:0<m)(E:k*2+m*2<=b.size):
 ∃w',(∀v,(Builtin.clear_ #[33] v #[.slice (some (Z p (k*2))) m c]).run prog w=.ok (.tuple #[]) w')/\I [p] w w'/\∃t,Bk w' p 56 t/\∀i,i<k*2->t[i]?=b[i]?:=by
 obtain⟨m,rfl⟩:∃q,m=q+1:=⟨m-1,X⟩
 have C:(Builtin.zeroCells #[Y 0,n_] (m+1)).toList.length=(m+1)*2:=by simp[Builtin.zeroCells]
 have B:∀y∈(Builtin.zeroCells #[Y 0,n_] (m+1)).toList,y.oneCell'=true:=by
  intro y d;simp[Builtin.zeroCells]at d;obtain⟨a,F,rfl⟩:=d
  have:a % 2=0∨a % 2=1:=X
  rcases this with h|h<;>simp[h,Value.oneCell']
 have r:=run_storeCells_at prog p (k*2) 56 (Builtin.zeroCells #[Y 0,n_] (m+1)).toList 0 b w u (by rw[C];omega) B;simp only[Hb]at r
 have d:=λz=>zeroValue56 z
 refine⟨_,λv=>by simp[Builtin.clear_,Gu underlying33,d,r,Value.cells];rfl,?_,?_⟩
 .exact⟨rfl,rfl,rfl,J,λk E D=>setRow_other w p k _ (zu D)⟩
 .refine⟨_,setRow_heap w p b _ 56 (0,0) u,λi D=>?_⟩;rw[Ic,GH p_,List.getElem?_take_of_lt D,Array.getElem?_toList]
def Ff(f s:Nat)(a:Ob->Bool)(p:Nat)(W:World):Prop:=
 ∀(o:Ob) (A:OA) (c:Nat) (w:World),I [p] W w->Calls prog 112 #[.agg #[Y o.id,.slice A o.fs.length c],q_ f,q_ s] w λe w'=>e=.returned (.bool (a o))/\I [] w w'
def t8{f:Nat}{p n c:Nat}{l:List Rw}{W w:World}(u:Ff f s a p W)(L:I [p] W w)(K:o4 p w l)(T:l.length=n)(R:n<=1000000000):
 Calls prog 156 #[.slice (j_ p) n c,.func (.func 112) #[] #[q_ f,q_ s]] w λe w'=>e=.returned (Y (iE (λr:Rw=>a r.o) l 0))/\I [] w w':=by
 refine h5 λQ v=>?_
 have F:=U (show iE (λr:Rw=>a r.o) l 0=iE (λr:Rw=>a r.o) (l.drop 0) 0 from rfl);have N:=U u;clear u
 go_enter func156,ntmps156
 go_wp2
 go_loopw [8] (λq w'=>∃b:Nat,b<=n/\q=Y b/\Hid (iE (λr:Rw=>a r.o) l 0=iE (λr:Rw=>a r.o) (l.drop b) b)/\I [] w w') (λq _=>n-(intOf q).toNat)
 case atStart=>exact⟨0,N_ _,gn,F,H _ _⟩
 case round=>
  obtain⟨b,S,rfl,m,d⟩:=hrel
  by_cases O:b<n
  .have i:b<l.length:=X;obtain⟨P,V,hA,E,G⟩:=(K.hF d).os.at_ i;injection hA with hA;injection hA with hA z;subst hA;subst z;simp only[W_]at E G;have D:=U (k2 (λr:Rw=>a r.o) l b b i);have HM:=U (ka (λr:Rw=>a r.o) l b b i);generalize l[b]=r at*;have C:=U (N.out r.o r.A r.c wr (L.hJ d J));clear i
   go_wp2_with fail
   go_at_call 112
   refine C.out.mono ?_;rintro e Z⟨rfl,B⟩;have y:=d.trans B
   cases k:a r.o with
   |true=>
    have t:=U (D.out k);clear k;go_wp2;rw[v.out,m.out,t.out];exact⟨rfl,y⟩
   |false=>
    have t:=U (HM.out k);clear k;go_wp2;go_roundw
    case rel=>exact⟨b+1,X,gn,U (by rw[m.out,t.out]),y⟩
    case measure=>exact mz
  .go_wp2;rw[v.out,m.out,lu _ _ _ _ X];exact⟨rfl,d⟩
def Ba(q:α->Bool)(l:List α):(iE q l 0= -1/\∀x∈l,q x=false)∨∃k,∃m:k<l.length,iE q l 0=(k:Nat)/\q l[k]=true/\∀x∈l.take k,q x=false:=by
 suffices M0:∀j:Nat,(iE q l j= -1/\∀x∈l,q x=false)∨∃k,∃m:k<l.length,iE q l j=(j+k:Nat)/\q l[k]=true/\∀x∈l.take k,q x=false by
  rcases M0 0 with h|⟨k,m,d,i⟩
  .exact .inl h
  .exact .inr ⟨k,m,by rw[d];simp,i⟩
 induction l with
 |nil=>intro j;left;exact⟨rfl,λx b=>by cases b⟩
 |cons o l r=>
  intro j
  by_cases c:q o=true
  .right;exact⟨0,J,by simp[iE,c],by simpa using c,λx b=>by simp at b⟩
  .have t:iE q (o::l) j=iE q l (j+1):=by simp[iE,c]
   have c:q o=false:=zu c;rw[t]
   rcases r (j+1)with⟨d,i⟩|⟨k,m,d,i,u⟩
   .exact .inl ⟨d,λx b=>by rcases M_.1 b with rfl|b;exact c;exact i x b⟩
   .refine .inr ⟨k+1,by simpa using m,by rw[d];congr 1;omega,by simpa using i,λx b=>?_⟩;rw[HP]at b
    rcases M_.1 b with rfl|b
    .exact c
    .exact u x b
def uE{q:α->Bool}{l:List α}(h:∀x∈l,q x=false):l.filter (λx=> !q x)=l:=List.filter_eq_self.2 λx b=>by simp[h x b]
def wj{f:Nat}{p n c:Nat}{l:List Rw}{w:World}(K:Ff f s a p w)(i:o4 p w l)(V:l.length=n)(ca:n<=1000000000)(ad:n<=c):
 Calls prog 110 #[.slice (j_ p) n c,.func (.func 112) #[] #[q_ f,q_ s]] w λe w'=>∃b,e=.returned (.slice (j_ p) b.length c)/\b=l.filter (λr=> !a r.o)/\Os w' (j_ p) b/\I [p] w w':=by
 refine h5 λQ aq=>?_
 have ae:=U K;have aG:=U (t8 K (H [p] w) i V ca (c:=c));clear K
 rcases Ba (λr:Rw=>a r.o) l with⟨C,z⟩|⟨k,hk,C,ao,z⟩
 .have L:=U C;have D:=U (uE (q:=λr:Rw=>a r.o) z);clear C z
  go_enter func110,ntmps110
  go_wp2_with fail
  go_at_call 156
  refine aG.out.mono ?_;rintro e w1⟨rfl,B⟩;rw[L.out];go_wp2;rw[aq.out];exact⟨l,by rw[V];rfl,D.out.symm,(i.hF B).os,(H [p] w).hJ B J⟩
 .have L:=U C
  have D:=U (show(l.take (k+1)).filter (λr=> !a r.o)=l.take k by
   rw[T_ hk,Hd,uE z]
   simp[ao])
  clear C z ao
  go_enter func110,ntmps110
  go_wp2_with fail
  go_at_call 156
  refine aG.out.mono ?_;rintro e w1⟨rfl,B⟩;rw[L.out];have M:=i.hF B;have A:=(H [p] w).hJ B (by simp:∀x∈([]:List Nat),x∈[p]∨w.heap.size<=x);clear i
  go_wp2_with fail
  go_loopw [5,6] (λah S wr=>∃(d j:Nat) (b:List Rw),d<j/\j<=n/\ah=Y d/\S=Y j/\o4 p wr b/\b.length=n/\Hid (b.take d=(l.take j).filter (λr=> !a r.o))/\Hid (b.drop j=l.drop j)/\I [p] w wr) (λ_ S _=>n-(intOf S).toNat)
  case atStart=>exact⟨k,k+1,l,X,X,gn,gn,M,V,U D.out.symm,U rfl,A⟩
  case round=>
   clear M A D;obtain⟨d,j,b,aj,hj,rfl,rfl,i,ck,P,HD,hg⟩:=hrel
   by_cases af:j<n
   .have bw:j<b.length:=X;have W:j<l.length:=X;have F:d<b.length:=X;obtain⟨ak,off,hA,bj,bz⟩:=i.os.at_ bw;injection hA with hA;injection hA with hA G;subst hA;subst G;obtain⟨ak,off,hA,ai,aU⟩:=i.os.at_ F;injection hA with hA;injection hA with hA G;subst hA;subst G;simp only[W_]at bj bz ai aU
    have T:b[j]=l[j]/\b.drop (j+1)=l.drop (j+1):=by
     have e:=HD.out;rw[Q_ bw,Q_ W]at e;injection e with aN aK;exact⟨aN,aK⟩
    rw[T.1]at bj bz;have b8:=U T.2
    have al:=U (show(l.take (j+1)).filter (λr=> !a r.o)=(l.take j).filter (λr=> !a r.o)++(if a l[j].o=true then[] else[l[j]]) by
     rw[T_ W,Hd]
     cases u:a l[j].o<;>simp[u])
    clear T;generalize l[j]=r at*;obtain⟨am,gb,aW,aM,E,t⟩:=box1 wr 56 #[Y r.o.id,.slice r.A r.o.fs.length r.c];have an:=hg.hJ E (by simp:∀x∈([]:List Nat),x∈[p]∨w.heap.size<=x);have ap:=U (ae.out r.o r.A r.c am an);have R:=i.hF E;obtain⟨MV,MU⟩:=t.iC
    go_wp2_with fail
    go_at_call 112
    refine ap.out.mono ?_;rintro e w2⟨rfl,v⟩;have y:=R.hF v;have er:=an.hJ v (by simp:∀x∈([]:List Nat),x∈[p]∨w.heap.size<=x)
    cases u:a r.o with
    |true=>
     have N:=U (show(l.take (j+1)).filter (λr=> !a r.o)=(l.take j).filter (λr=> !a r.o) by rw[al.out,u];simp);have g:=U (P.out.trans N.out.symm);clear u i R t;go_wp2;go_roundw
     case rel=>repeat(first|(refine⟨?_,rfl⟩;exact⟨d,j+1,b,X,X,rfl,gn,y,ck,g,b8,er⟩)|apply Exists.intro)
     case measure=>exact mz
    |false=>
     have N:=U (show(l.take (j+1)).filter (λr=> !a r.o)=(l.take j).filter (λr=> !a r.o)++[r] by rw[al.out,u];simp);have O:=t.hF v;obtain⟨z0,aR⟩:=O.iC;have aV:=v.f_ (E.f_ ai J) J;have bq:=v.f_ (E.f_ aU J) J;have bB:=y.fr (d*2);have bM:=y.fr (d*2+1);have df:=y.set F r;have Z:=Bi (p:=p) (w:=w2) d (Y r.o.id) (.slice r.A r.o.fs.length r.c);have MY:=er.trans Z
     have g:=U (show(b.set d r).take (d+1)=(l.take (j+1)).filter (λr=> !a r.o) by
      rw[N.out,<-P.out,List.take_set,T_ F,Ib _ _ p_]
      simp[Ia (Nat.le_of_lt F)])
     have cf:=U (show(b.set d r).drop (j+1)=l.drop (j+1) by rw[Ih X];exact b8.out);clear u i R y t Z;go_wp2;go_roundw
     case rel=>repeat(first|(refine⟨?_,rfl⟩;exact⟨d+1,j+1,b.set d r,X,X,gn,gn,df,by simpa using ck,g,cf,MY⟩)|apply Exists.intro)
     case measure=>exact mz
   .have G:j=n:=X;subst G;obtain⟨v,t,y⟩:=i
    have Z:b.length*2<=v.size:=by
     rcases Gl b.length with N|N
     .omega
     .have iN:(iV b).length=b.length*2:=ln b;have R:b.length*2-1<(iV b).length:=X
      have:=y _ _ (K_ R)
      rcases FW (b.length*2-1) v.size with h|h
      .omega
      .exact MM
    obtain⟨ag,hcl,E,F,O,T⟩:=sZ (k:=d) (m:=j-d) (c:=c-d) t X X;have g:=U (show b.take d=l.filter (λr=> !a r.o) by have e:=P.out;rwa [FP (l:=l) X]at e);go_wp2;rw[aq.out];refine⟨b.take d,by rw[Gj,Ia X];rfl,g.out,⟨ln _,λ_=>⟨p,0,F,(0,0),rfl,O,λq W u=>?_⟩⟩,hg.trans E⟩;unfold iV at u;rw[tG Rw.E 2 (λ_=>rfl),Gv]at u;split at u
    .rw[W_,T q (by assumption)];exact y q W u
    .cases u
def x7(t:i3)(M:List Int):Nat->List Int
 |0=>ld t.gs++(ld t.rs++(ld t.ws++M))
 |1=>ld t.rs++(ld t.ws++M)
 |2=>ld t.ws++M
 |_=>M
def vE(t:i3)(R:List Int):nG t++R=x7 t (t.ds.map (·.id)++(kd t.nw++R)) 0:=by
 simp[nG,x7]
def xf{fs:List Vl}(b:j<fs.length):lZ (fs.drop j)=qh fs[j]++lZ (fs.drop (j+1)):=by
 rw[Q_ b];unfold lZ qh;rw[Ho];split<;>simp
def xi{h:List Ob}(b:j<h.length):kd (h.drop j)=lZ h[j].fs++kd (h.drop (j+1)):=by
 rw[Q_ b]
 rfl
def A_{b r L:List Int}(h:b++r=L):b.length<=L.length:=by rw[<-h];simp
def q8{P:Program}{rest:List Oper}{o:Oper}{a:Act}{w:World}{i:Operand}{t:TypeId}{cs:Array Value}{n:Int}{v:Value}(N:(Instr.index t (.agg cs) (Y n)).run P w=.ok v w)(h:wpList P ops Q rest (a.put o.dst v) w)(L:o.guard=none:=by rfl)(ho:o.op=.index t x i:=by rfl)(hx:a.eval x=.agg cs:=by rfl)(hi:a.eval i=Y n:=by rfl):wpList P ops Q (o::rest) a w:=
 wpList_plain L λ_ MY=>by
  unfold Oper.wp;simp[execOp,ho,hx,hi,N,Result.andThen];exact MY _ _ h
def EZ{a b c:Value}(w:World):(Instr.index 121 (.agg #[a,b,c]) (Y 0)).run prog w=.ok a w/\(Instr.index 121 (.agg #[a,b,c]) (Y 1)).run prog w=.ok b w/\(Instr.index 121 (.agg #[a,b,c]) (Y 2)).run prog w=.ok c w:=⟨k_,k_,k_⟩
def y3{K:TypeId}(TA:OA)(tc:Nat)(ts:List Tk)(w:World)(MX:Sl w K 48 TA ts.length (ts.flatMap λt=>t.g_.toList))(al:∀t∈ts,zL w t)(hn:(k1 (ts.map Tk.p)).length<=1000000000)
 (hb:ts.length<=1000000000/\∀t∈ts,t.gs.l.length<=1000000000/\t.rs.l.length<=1000000000/\t.ws.l.length<=1000000000/\t.ds.l.length<=1000000000/\t.nw.l.length<=1000000000):
 Calls prog 28 #[.slice TA ts.length tc] w (lz (mR (k1 (ts.map Tk.p))) w):=by
 refine h5 λQ aq=>?_
 obtain⟨an,g,aW,bF,MZ,hB⟩:=box1 w 119 #[n_];have MY:GA w.heap.size an g []:=⟨X,none,0,hB,Zr.nil⟩;have E:=(H [] an).alloc (.cells #[Y 1] 2);have C:=U (pD (c:=1) (MY.hF E) (Ls.one an 1) (by have:=MZ.size;simp;omega) J);have aS:Fx w.heap.size [119,2] w (an.alloc (.cells #[Y 1] 2)):=.js (MZ.trans E);have ar:=U al;have a2:=U hn;have h:=U (show[1]++((ts.drop 0).flatMap λt=>nG t.p)=k1 (ts.map Tk.p) by unfold k1;rw[List.flatMap_map];rfl);have n:=hb.1;have bi:=U hb.2;generalize k1 (ts.map Tk.p)=B at*;obtain⟨base,aK⟩:=nm_ w.heap.size;rw[<-aK]at C aS;have N:w.heap.size<=base:=X;have ag:base<=w.heap.size:=X;clear al hn hb MY hB MZ E aK
 go_enter func28,ntmps28
 go_wp2_with fail
 go_at_call 67
 refine C.out.mono ?_;rintro e w1⟨rfl,ae,W⟩;have W:=aS.trans W;clear aS C
 go_wp2_with fail
 go_loopw [21] (λm wr=>∃(r:Nat) (b:List Int),r<=ts.length/\m=Y r/\GA base wr g b/\Hid (b++((ts.drop r).flatMap λt=>nG t.p)=B)/\Fx base [119,2] w wr) (λm _=>ts.length-(intOf m).toNat)
 case atStart=>exact⟨0,_,N_ _,gn,ae,h,W⟩
 case round=>
  clear ae W h;obtain⟨r,b,hk,rfl,hA,k,d⟩:=hrel;have i:=d.gr w N (H [] w)
  by_cases af:r<ts.length
  .obtain⟨aw,off,ae,hc⟩:=DZ MX af;subst ae;have P:=ar.out _ (O_ af);have MV:=bi.out _ (O_ af)
   have D:=U (show b++x7 ts[r].p ((ts[r].p.ds.map (·.id))++(kd ts[r].p.nw++((ts.drop (r+1)).flatMap λt=>nG t.p))) 0=B by
    have e:=k.out;rw[Q_ af,Ga,vE]at e
    exact e)
   obtain⟨G,hR⟩:=mn_ ((ts.drop (r+1)).flatMap λt=>nG t.p);rw[hR]at D;have aU:=U hR;clear hR;generalize ts[r]=t at*
   have eB:∀j,j<48->wr.cell? (Z aw (off+r*48+j))=t.g_[j]?:=λj hj=>by
    have h1:=hc j hj
    have hs:j<t.g_.size:=by rw[Tk.size];exact hj
    rw[FR hs]at h1 |-;exact i.f_ h1 J
   clear hc k
   go_upto_region 6 with(first|(refine FE eB ?_)|(refine kS (t.g_) (P_ wr 53 lA) (Tk.one _) ?_;intro bX n aC))
   have a:I [] wr bX:=((H [] wr).alloc _).hJ aC (λax hy=>.inr (by rw[I_]at hy;omega));have F:=hA.hF a;have y:=d.trans (.js a);generalize wr.heap.size=O at*;clear hA d eB aC a i;have ay:bX.cell? (Z O 36)=some (.slice t.gs.A t.gs.l.length t.gs.c):=(n.f_ 36).trans rfl;have az:bX.cell? (Z O 37)=some (.slice t.rs.A t.rs.l.length t.rs.c):=(n.f_ 37).trans rfl;have MS:bX.cell? (Z O 38)=some (.slice t.ws.A t.ws.l.length t.ws.c):=(n.f_ 38).trans rfl
   go_wp2_with fail
   go_loopw [32] (λm wr=>∃(r:Nat) (b:List Int),r<=3/\m=Y r/\GA base wr g b/\Hid (b++x7 t.p ((t.p.ds.map (·.id))++(kd t.p.nw++G)) r=B)/\Bk wr O 53 t.g_/\Fx base [119,2] w wr) (λm _=>3-(intOf m).toNat)
   case atStart=>exact⟨0,b,X,gn,F,D,n,y⟩
   case round=>
    clear F D n y ay az MS;obtain⟨z,b,hm,rfl,hA,k,n,d⟩:=hrel;have i:=d.gr w N (H [] w);obtain⟨_,s1⟩:=P.gs;obtain⟨_,b7⟩:=P.rs;obtain⟨_,cz⟩:=P.ws;have M:=d.size;have bA:=a2.out
    by_cases h3:z<3
    .have HG:∀(A:OA) (c:Nat) (R:List Cl) (S:List Int) {e},Sl w e 4 A R.length (R.flatMap Cl.E)->R.length<=1000000000->b++(ld R++S)=B->Hid (Calls prog 68 #[q_ g,.slice A R.length c] wr λe w'=>e=.returned (.tuple #[])/\(∃u,GA base w' g u/\u++S=B)/\Fx base [119,2] wr w'):=
      λA c R S _ hs hl T=>U (xB (c:=c) hA N i hs X T bA hl)
     obtain rfl|rfl|rfl:z=0∨z=1∨z=2:=by omega
     .have C:=HG t.gs.A t.gs.c t.gs.l _ s1 MV.1 k.out;clear HG
      go_wp2_with (first|(refine q8 (EZ wr).1 ?_)|go_at_call 68;refine C.out.mono ?_;rintro e V⟨rfl,⟨u,F,L⟩,y⟩)
      go_roundw
      case rel=>exact⟨1,u,X,gn,F,U L,y.bk n,d.trans y⟩
      case measure=>simp[intOf]
     .have C:=HG t.rs.A t.rs.c t.rs.l _ b7 MV.2.1 k.out;clear HG
      go_wp2_with (first|(refine q8 (EZ wr).2.1 ?_)|go_at_call 68;refine C.out.mono ?_;rintro e V⟨rfl,⟨u,F,L⟩,y⟩)
      go_roundw
      case rel=>exact⟨2,u,X,gn,F,U L,y.bk n,d.trans y⟩
      case measure=>simp[intOf]
     .have C:=HG t.ws.A t.ws.c t.ws.l _ cz MV.2.2.1 k.out;clear HG
      go_wp2_with (first|(refine q8 (EZ wr).2.2 ?_)|go_at_call 68;refine C.out.mono ?_;rintro e V⟨rfl,⟨u,F,L⟩,y⟩)
      go_roundw
      case rel=>exact⟨3,u,X,gn,F,U L,y.bk n,d.trans y⟩
      case measure=>simp[intOf]
    .obtain rfl:z=3:=by omega
     have ad:wr.cell? (Z O 40)=some (.slice t.ds.A t.ds.l.length t.ds.c):=(n.f_ 40).trans rfl;clear s1 b7 cz;obtain⟨_,dn⟩:=P.ds;obtain⟨_,ca⟩:=P.nw;obtain⟨_,bV⟩:=P.nr;have f:=U (show b++((t.ds.l.drop 0).map (·.id)++(kd ((hX t.nw.l).drop 0)++G))=B from k.out);clear k P i
     go_wp2_with fail
     go_loopw [42] (λm wr=>∃(j:Nat) (b:List Int),j<=t.ds.l.length/\m=Y j/\GA base wr g b/\Hid (b++((t.ds.l.drop j).map (·.id)++(kd ((hX t.nw.l).drop 0)++G))=B)/\Bk wr O 53 t.g_/\Fx base [119,2] w wr) (λm _=>t.ds.l.length-(intOf m).toNat)
     case atStart=>exact⟨0,b,N_ _,gn,hA,f,n,d⟩
     case round=>
      clear hA f n d ad;obtain⟨j,b,hj,rfl,hA,k,n,d⟩:=hrel;have i:=d.gr w N (H [] w);have M:=d.size
      by_cases R:j<t.ds.l.length
      .obtain⟨b2,ak,F,S,T,bP,bQ,be⟩:=Em dn R;have z0:=i.f_ S J;have aR:=i.f_ T J;have aZ:=i.f_ bP J;have z3:=i.f_ bQ J;have z4:=i.f_ be J
       have D:=U (show(b++[t.ds.l[j].id])++((t.ds.l.drop (j+1)).map (·.id)++(kd ((hX t.nw.l).drop 0)++G))=B by
        have e:=k.out;rw[Q_ R]at e;rw[<-e]
        simp only[Gm,Gc,Hq,FY])
       have iN:=A_ D.out;simp only[J_,FK,F7]at iN;generalize t.ds.l[j]=x at*;generalize t.ds.A=dA at*;subst F;clear S T bP bQ be i k;obtain⟨aX,gb,bE,aM,E,ao⟩:=box1 wr 124 #[Y x.id,Y x.f,Y x.op,.bool x.v.r,Y x.v.n];have hq0:=ao.f_ 0;have u:=E.alloc (.cells #[Y x.id] 2);have C:=U (pD (c:=1) (hA.hF u) (Ls.one aX x.id) (ov u.size) (by simp only[FK,F7];have:=a2.out;omega));have av:=U (n.hF u);have y:=d.trans (.js u);clear n d hA ao E u
       go_wp2_with (go_at_call 67;refine C.out.mono ?_;rintro e V⟨rfl,q,s⟩)
       go_roundw
       case rel=>
        repeat(first|(refine⟨?_,rfl⟩;exact⟨j+1,_,X,gn,q,D,s.bk av.out,y.trans s⟩)|apply Exists.intro)
       case measure=>exact mz
      .have f:=U (show b++(kd ((hX t.nw.l).drop 0)++G)=B by
        have e:=k.out;rw[GD (l:=t.ds.l) X]at e
        exact e)
       have MT:wr.cell? (Z O 39)=some (.slice t.nw.A t.nw.l.length t.nw.c):=(n.f_ 39).trans rfl;clear k i dn
       go_wp2_with fail
       go_loopw [55] (λm wr=>∃(j:Nat) (b:List Int),j<=t.nw.l.length/\m=Y j/\GA base wr g b/\Hid (b++(kd ((hX t.nw.l).drop j)++G)=B)/\Fx base [119,2] w wr) (λm _=>t.nw.l.length-(intOf m).toNat)
       case atStart=>exact⟨0,b,N_ _,gn,hA,f,d⟩
       case round=>
        clear hA f n d MT;obtain⟨j,b,hj,rfl,hA,k,d⟩:=hrel;have i:=d.gr w N (H [] w);have M:=d.size
        by_cases R:j<t.nw.l.length
        .obtain⟨b2,ak,F,S,T⟩:=ca.at_ R;obtain⟨hv,bD⟩:=bV _ (O_ R);have z0:=i.f_ S J;have aR:=i.f_ T J
         have D:=U (show b++(lZ (t.nw.l[j].o.fs.drop 0)++(kd ((hX t.nw.l).drop (j+1))++G))=B by
          have e:=k.out;rw[xi (by rw[h7];exact R)]at e;rw[<-e]
          simp[hX])
         obtain⟨aA,ck⟩:=mn_ (kd ((hX t.nw.l).drop (j+1))++G);rw[ck]at D;have aB:=U ck;clear ck;generalize t.nw.l[j]=u at*;generalize t.nw.A=aj at*;subst F;clear S T k;have E:=(H [] wr).alloc (.cells #[Y u.o.id,.slice u.A u.o.fs.length u.c] 56);obtain⟨bq,bo⟩:=(P_ wr 56 #[Y u.o.id,.slice u.A u.o.fs.length u.c]).iC;have q:=hA.hF E;have s:=d.trans (.js E);clear hA d i
         go_wp2_with fail
         go_loopw [62] (λm wr=>∃(z:Nat) (b:List Int),z<=u.o.fs.length/\m=Y z/\GA base wr g b/\Hid (b++(lZ (u.o.fs.drop z)++aA)=B)/\Fx base [119,2] w wr) (λm _=>u.o.fs.length-(intOf m).toNat)
         case atStart=>exact⟨0,b,N_ _,gn,q,D,s⟩
         case round=>
          clear q D s bq bo;obtain⟨z,b,hm,rfl,hA,k,d⟩:=hrel;have i:=d.gr w N (H [] w);have M:=d.size
          by_cases aD:z<u.o.fs.length
          .obtain⟨b3,am,q,bY,br⟩:=hv.at_ aD;have z0:=i.f_ bY J;have aR:=i.f_ br J
           have D:=U (show(b++qh u.o.fs[z])++(lZ (u.o.fs.drop (z+1))++aA)=B by
            have e:=k.out;rw[xf aD]at e;rw[<-e]
            simp only[Gc])
           have iN:=A_ D.out;simp only[J_]at iN;generalize u.o.fs[z]=v at*;generalize u.A=aE at*;subst q;clear bY br k i;have E:=(H [] wr).alloc (.cells #[.bool v.r,Y v.n] 38);obtain⟨bq,bo⟩:=(P_ wr 38 #[.bool v.r,Y v.n]).iC;have C:=U (tx (v:=v) (hA.hF E) (ov E.size) (ov a2.out));have s:=d.trans (.js E);clear hA d
           go_wp2_with (go_at_call 69;refine C.out.mono ?_;rintro e V⟨rfl,q,aF⟩)
           go_roundw
           case rel=>
            repeat(first|(refine⟨?_,rfl⟩;exact⟨z+1,_,X,gn,q,D,s.trans aF⟩)|apply Exists.intro)
           case measure=>exact mz
          .go_wp2;go_roundw
           case rel=>exact⟨j+1,b,X,gn,hA,U (by
            have e:=k.out;rw[GD (l:=u.o.fs) X,<-aB.out]at e
            exact e),d⟩
           case measure=>exact mz
        .go_wp2;go_roundw
         case rel=>exact⟨r+1,b,X,gn,hA,U (by
          have e:=k.out;rw[GD (l:=hX t.nw.l) (by rw[h7];omega),<-aU.out]at e
          exact e),d⟩
         case measure=>exact mz
  .have e:=k.out;rw[GD X]at e;simp only[List.flatMap_nil,HS]at e;subst e;have F:=U (rW hA a2.out (ov d.size))
   go_wp2_with (go_at_call 70;refine F.out.mono ?_;rintro e V⟨D,z,rfl,L,u,y⟩)
   rw[aq.out];exact⟨D,z,rfl,L,u,y.gr w N i⟩
section
open Go.RowKit Go.Shelf
def w8{e:TypeId}(A:OA)(c:Nat)(ys:List Int)(x:Int)(w:World)(h:Sl w e 1 A ys.length (zs ys))(r:ys.Pairwise (· < ·))(u:ys.length<=1000000000):
 Calls prog 113 #[.slice A ys.length c,Y x] w λe w'=>∃k:Int,e=.returned (.tuple #[Y k,.bool (decide (x∈ys))])/\I [] w w':=by
 rcases Gl ys.length with b|b
 .have t:ys=[]:=FZ b;subst t
  refine h5 λQ i=>?_
  go_enter func113,ntmps113
  go_wp2
  go_loopw [7,8] (λd m wr=>d=Y 0/\m=Y 0/\I [] w wr) (λ_ _ _=>0)
  case atStart=>exact⟨rfl,gn,H _ _⟩
  case round=>
   obtain⟨rfl,rfl,q⟩:=hrel;go_wp2;rw[i.out];exact⟨0,rfl,q⟩
 .obtain⟨m,q,rfl,hc⟩:=Sl.f_ h b
  have i:=AnyG.slices_BinarySearch_int D2 m q ys.length c ys x w (H_ _) X (λj d=>by
   have:=hc j (Y ys[j]) (by simp[d])
   rw[this]
   simp[List.getD,K_ d]) (by rw[GR];exact r.imp λh=>by omega)
  refine i.mono ?_;rintro e w'⟨rfl,t,rfl⟩;exact⟨_,by rw[GR,List.contains_eq_mem],(H [] w).drewN t⟩
def CT{f p:Nat}{A:OA}{c:Nat}{ys:List Int}{l:List Rw}{W:World}(u:Bk W f 27 #[.slice A ys.length c])(v:Bk W s 4 #[.bool rb])(y:Ls W A ys)(K:ys.Pairwise (· < ·))(J:ys.length<=1000000000)(I:o4 p W l):
 Ff f s (λo=>decide (o.id∈ys) !=rb) p W:=by
 intro o C H w m;obtain⟨X,k,_⟩:=I
 have i:∀{g t cs},Bk W g t cs->t≠56->Bk w g t cs:=λ{g t cs} h ht=>h.gr m (λB=>by
  rw[I_]at B;subst B
  have:=h.symm.trans k
  injection this with this;injection this with _ this
  exact ht this)
 have r:=i u O;have d:=i v O;have z:Ls w A ys:=Sl.it y k O m
 refine h5 λQ G=>?_
 obtain⟨F,g,S,T,b,D⟩:=box1 w 56 #[Y o.id,.slice C o.fs.length H];have L:=D.f_ 0;have V:=(r.hF b).f_ 0;have N:=(d.hF b).f_ 0;have E:=U (w8 A c ys o.id F (Sl.hF z b) K J);have a:=d.hF b;clear u v y k i r d z m
 go_enter func112,ntmps112
 go_wp2_with (go_at_call 113;refine E.out.mono ?_;rintro e P⟨Z,rfl,q⟩;have R:=(a.hF q).f_ 0)
 rw[G.out];exact⟨rfl,b.trans q⟩
def t7(A:OA)(c:Nat)(f:Value)(w:World):Calls prog 156 #[.slice A 0 c,f] w λe w'=>e=.returned (Y (-1))/\w=w':=by
 refine h5 λQ d=>?_
 go_enter func156,ntmps156
 go_wp2
 go_loopw [8] (λb wr=>b=Y 0/\w=wr) (λ_ _=>0)
 case atStart=>exact⟨gn,rfl⟩
 case round=>
  obtain⟨rfl,rfl⟩:=hrel;go_wp2;rw[d.out];exact MP
def wi(A:OA)(c:Nat)(f:Value)(w:World):Calls prog 110 #[.slice A 0 c,f] w λe w'=>e=.returned (.slice A 0 c)/\w=w':=by
 refine h5 λQ b=>?_
 go_enter func110,ntmps110
 go_wp2_with (go_at_call 156;refine(t7 A c f w).mono ?_;rintro e d⟨rfl,rfl⟩)
 rw[b.out];exact MP
end
def ug{P:Program}{rest:List Oper}{o:Oper}{a:Act}{w:World}{t:TypeId}{f:Nat}{v u:Value}(N:(Instr.field t v f).run P w=.ok u w)(h:wpList P ops Q rest (a.put o.dst u) w)(L:o.guard=none:=by rfl)(ho:o.op=.field t x f:=by rfl)(hx:a.eval x=v:=by rfl):wpList P ops Q (o::rest) a w:=
 wpList_plain L λ_ MY=>by
  unfold Oper.wp;simp[execOp,ho,hx,N,Result.andThen];exact MY _ _ h
def DH(v:Value)(w:World):(Instr.field 35 (.agg #[v]) 0).run prog w=.ok v w:=k_
structure HM(w:World)(A:OA)(l:List Rw):Prop where
 os:∃e,sC e w A l
 k5:∃E,qs E w l
 len:l.length<=50000000
 zero:(0:Int)∉iF (hX l)
 wf:∀x∈iF (hX l),mQ x
def HM.hF{w w':World}{A:OA}{l:List Rw}(h:HM w A l)(c:I [] w w'):HM w' A l:=
 ⟨let⟨e,b⟩:=h.os;⟨e,b.hF c⟩,let⟨e,b⟩:=h.k5;⟨e,b.hF c⟩,h.len,h.zero,h.wf⟩
structure TM(w:World)(A:OA)(ts:List Tk):Prop where
 row:∃e,Sl w e 48 A ts.length (ts.flatMap λt=>t.g_.toList)
 yO:∀t∈ts,zL w t
 few:(k1 (ts.map Tk.p)).length<=1000000000
 len:ts.length<=1000000000
 lens:∀t∈ts,t.gs.l.length<=1000000000/\t.rs.l.length<=1000000000/\t.ws.l.length<=1000000000/\t.ds.l.length<=1000000000/\t.nw.l.length<=1000000000
def zL.hF{w w':World}{t:Tk}(h:zL w t)(c:I [] w w'):zL w' t:=
 ⟨let⟨e,b⟩:=h.gs;⟨e,Sl.hF b c⟩,let⟨e,b⟩:=h.rs;⟨e,Sl.hF b c⟩,let⟨e,b⟩:=h.ws;⟨e,Sl.hF b c⟩,let⟨e,b⟩:=h.ds;⟨e,Sl.hF b c⟩,let⟨e,b⟩:=h.nw;⟨e,b.hF c⟩,let⟨e,b⟩:=h.nr;⟨e,b.hF c⟩⟩
def TM.hF{w w':World}{A:OA}{ts:List Tk}(h:TM w A ts)(b:I [] w w'):TM w' A ts:=
 ⟨let⟨e,d⟩:=h.row;⟨e,Sl.hF d b⟩,λi c=>(h.yO i c).hF b,h.few,h.len,h.lens⟩
def TM.roots{w:World}{A:OA}{ts:List Tk}(h:TM w A ts)(c:Nat):Calls prog 28 #[.slice A ts.length c] w (lz (mR (k1 (ts.map Tk.p))) w):=by
 obtain⟨e,b⟩:=h.row;exact y3 A c ts w b h.yO h.few ⟨h.len,h.lens⟩
def HM.reach{w:World}{A:OA}{l:List Rw}(h:HM w A l)(c:Nat){e:TypeId}{b:OA}(d:Nat){rs:List Int}(m:Sl w e 1 b rs.length (zs rs))(k:rs.length<=1000000000):Calls prog 35 #[.agg #[.slice A l.length c],.slice b rs.length d] w (lz (qj (hX l) rs) w):=by
 obtain⟨e,q⟩:=h.os;obtain⟨r,i⟩:=h.k5;exact xn A c l b d rs w q i h.len h.zero h.wf m k
def Ch{l:List Int}:(mR l).length<=l.length:=oz _ (ll l).nodup λx b=>((ll l).mem x).1 b
def yd(h:List Ob)(ts:List i3):(jx h ts).length<=h.length:=by
 have:=oz (jx h ts) (l:=iF h) (kn _ _).nodup λx b=>(((kn _ _).mem x).1 b).ids
 simpa[iF]using this
noncomputable def s6 (h:List Ob) (ts:List i3) (rb:Bool) (o:Ob):Bool:= !(decide (o.id∈jx h ts) !=rb)
def vP{hA TA:OA}{hc tc:Nat}{l:List Rw}{ts:List Tk}{w:World}(S:HM w hA l)(MX:TM w TA ts):
 Calls prog 73 #[.agg #[.slice hA l.length hc],.slice TA ts.length tc,.bool rb] w λe w'=>∃(A':OA) (c':Nat) (P:List Rw),e=.returned (.slice A' P.length c')/\hX P=(hX l).filter (s6 (hX l) (ts.map Tk.p) rb)/\Os w' A' P/\l5 w' P/\P.length<=l.length/\I [] w w':=by
 refine h5 λQ aq=>?_
 obtain⟨r,g,aF,aW,hg,d,MZ,hB,br⟩:=tJ w 35 #[.slice hA l.length hc] 4 #[.bool rb];obtain⟨b,E⟩:=mn_ (jx (hX l) (ts.map Tk.p));have bK:=U (show b.length<=50000000/\b.Pairwise (· < ·) from⟨by rw[<-E];have:=yd (hX l) (ts.map Tk.p);have:=S.len;rw[h7]at*;omega,by rw[<-E];exact(kn _ _).lt⟩);have af:=U (show ∀o,s6 (hX l) (ts.map Tk.p) rb o= !(decide (o.id∈b) !=rb) from λo=>by unfold s6;rw[E]);have V:Hid (∀(w':World),I [] r w'->∀(al:OA) (an:Nat),Ls w' al (mR (k1 (ts.map Tk.p)))->Calls prog 35 #[.agg #[.slice hA l.length hc],.slice al (mR (k1 (ts.map Tk.p))).length an] w' (lz b w')):=U (λw' h al an hb=>by rw[<-E];exact(S.hF (MZ.trans h)).reach hc an hb (G_ (Ch) MX.few));have aU:=U (λ(w':World)(h:I [] r w')=>(MX.hF (MZ.trans h)).roots tc);generalize mR (k1 (ts.map Tk.p))=rs at*;clear E
 go_enter func73,ntmps73
 go_upto_region 1 with fail
 go_cut [7] (λp a7=>∃(x:Nat) (A:OA) (aw:Nat),p=q_ x/\Bk a7 x 27 #[.slice A b.length aw]/\Ls a7 A b/\I [] r a7)
 case first=>
  refine hN (λw'=>w'.cell? (Z g 0)=some (.slice hA l.length hc)) 6 k_ ?_;obtain⟨am,b9⟩:=nm_ r.drew
  have j:I [] r am:=by rw[b9];exact(H [] r).drew
  rw[<-b9];clear b9;have M:=hB.hF j;have s:=j
  refine m5 (M.f_ 0) λC=>?_
  refine iv 0 C ?_;refine iv 1 C ?_;refine B7 2 4 (λK MY=>?_) (λK MY=>?_)
  .go_simp
   go_at_call 28
   refine(aU.out _ s).mono ?_;unfold lz;rintro e R⟨u,t,rfl,D, -,d⟩;have a:=s.trans d;have n:=M.hF d
   refine h4 MY (n.f_ 0) λC=>?_
   clear MY K;refine B7 3 4 (λK MY=>?_) (λK MY=>?_)
   .go_simp
    go_at_call 35
    refine(V.out _ a u t D).mono ?_;unfold lz;rintro e W⟨bg,aO,rfl,k, -,c⟩;have ct:=a.trans c;have Y:=n.hF c
    refine h4 MY (Y.f_ 0) λC=>?_
    clear MY K
    refine hZ 4 λK MY=>?_
    go_simp;obtain⟨B,x,L,N,i,v⟩:=box1 W 27 #[n_]
    refine h4 MY ((Y.hF ((H [] W).alloc _)).f_ 0) λC=>?_
    clear MY K;have aL:g≠x:=ov Y.lt;have az:r.heap.size<=x:=ov ct.size;have z:=ct.trans i;have G:=Y.hF i;have au:=Sl.hF k i;rw[L,N]at*
    refine hZ 5 λK MY=>?_
    have aV:=v.f_ 0;have bB:=v.hG 0;go_simp;have T:I [x] B (B.setCell (Z x 0) (.slice bg b.length aO)):=(H [x] B).setCell (p:=Z x 0) (.inl J) _
    refine h4 MY ((G.gr T (by rw[I_];exact aL)).f_ 0) λC=>?_
    clear MY K;refine hM k_ ?_ _;go_wp2;go_meet;exact⟨x,bg,aO,rfl,by simpa using v.hV 0 (.slice bg b.length aO),Sl.it au v O T,z.hJ T (λy hy=>.inr (by rw[I_]at hy;omega))⟩
   .go_simp;obtain⟨B,x,L,N,i,v⟩:=box1 R 27 #[n_]
    refine h4 MY ((n.hF ((H [] R).alloc _)).f_ 0) λC=>?_
    clear MY K;have aL:g≠x:=ov n.lt;have az:r.heap.size<=x:=ov a.size;have z:=a.trans i;have G:=n.hF i;have au:Ls B u _:=Sl.hF D i;rw[L,N]at*
    refine hZ 3 λK MY=>?_
    go_simp
    go_at_call 35
    refine(V.out _ z u t au).mono ?_;unfold lz;rintro e MT⟨bg,aO,rfl,k, -,c⟩;have F:=z.trans c;have b8:=G.hF c;have m:=v.hF c;exact I3
  .go_simp;obtain⟨B,x,L,N,i,v⟩:=box1 am 27 #[n_]
   refine h4 MY ((M.hF ((H [] am).alloc _)).f_ 0) λC=>?_
   clear MY K;have aL:g≠x:=ov M.lt;have az:r.heap.size<=x:=ov s.size;have z:=s.trans i;have G:=M.hF i;rw[L,N]at*
   refine hZ 2 λK MY=>?_
   go_simp
   go_at_call 28
   refine(aU.out _ z).mono ?_;unfold lz;rintro e R⟨u,t,rfl,D, -,d⟩;have a:=z.trans d;have n:=G.hF d;have Y:=v.hF d
   refine h4 MY (n.f_ 0) λC=>?_
   clear MY K
   refine hZ 3 λK MY=>?_
   go_simp
   go_at_call 35
   refine(V.out _ a u t D).mono ?_;unfold lz;rintro e MT⟨bg,aO,rfl,k, -,c⟩;have F:=a.trans c;have b8:=n.hF c;have m:=Y.hF c;exact I3
 case rest=>
  clear aU V;obtain⟨x,A,aw,rfl,M,hl,i⟩:=hcut;obtain⟨w1,a8⟩:=nm_ wc;rw[<-a8]at M hl i |-;clear a8;have j:=MZ.trans i;have z:=S.hF j;obtain⟨_,aj⟩:=z.os;obtain⟨_,f⟩:=z.k5;have ax:=hB.hF i;have ah:=br.hF i;have MV:=ax.f_ 0;have HD:=U (wh hA hc l w1 aj f (ov S.len));have aJ:=S.len;clear aj f z ax hB br
  go_wp2_with fail
  go_at_call 111
  refine HD.out.mono ?_;rintro e R⟨u,t,l2,rfl,v,MU,B,ay,d⟩;have aA:=U v;have a:=j.trans d;have cx:=M.hF d;have bT:=ah.hF d;have D:=Sl.hF hl d
  have ck:l2.length=l.length:=by have:=Z_ List.length v;rwa [h7,h7]at this
  rcases Gl l.length with G|G
  .have Y:l=[]:=FZ G;subst Y;have L:=U (wi u t (.func (.func 112) #[] #[q_ x,q_ aF]) R);clear v B
   go_wp2_with (first|(refine ug (DH _ _) ?_)|go_at_call 110;refine L.out.mono ?_;rintro e W⟨rfl,rfl⟩)
   rw[aq.out];exact⟨u,t,[],rfl,by simp[hX],⟨rfl,λh=>FU h (Nat.lt_irrefl 0)⟩,λaB N=>(by cases N),H_ _,a⟩
  .obtain⟨p,rfl,ar,L⟩:=B G;have aC:=CT cx bT D bK.out.2 (ov bK.out.1) L;have aD:=U (wj aC L ck X MU);clear v B aC
   go_wp2_with (first|(refine ug (DH _ _) ?_)|go_at_call 110;refine aD.out.mono ?_;rintro e W⟨dz,rfl,k,av,c⟩;have ae:=U k;clear k)
   rw[aq.out]
   have Y:dz.Sublist l2:=by rw[ae.out];exact List.filter_sublist
   refine⟨j_ p,t,dz,rfl,?_,av,λaB N=>?_,ov Y.length_le,a.hJ c (λy hy=>.inr (by rw[I_]at hy;have:=j.size;omega))⟩
   .rw[show(hX l).filter (s6 (hX l) (ts.map Tk.p) rb)=(hX l).filter (λo=> !(decide (o.id∈b) !=rb)) from List.filter_congr λo _=>af.out o,<-aA.out,ae.out];unfold hX;rw[List.filter_map]
    rfl
   .have q:=ay aB (Y.subset N);exact⟨L.vs c q.1,q.2⟩
