import Derived.Test.YtenbhdilndfaeaaGreatM35
import Derived.Test.YtenbhdilndfaeaaGreatM37
import Derived.Carry
import Derived.Lib.SlKeysI
import Derived.Lib.SlMapFilter
import Derived.Maps.RangeWalk
set_option maxRecDepth 100000
set_option maxHeartbeats 0
set_option linter.all false
namespace Go.Proofs.YtenbhdilndfaeaaGreat
open Go.RowKit Go.Proofs.Tryz
variable{G:Prop}{D:DataW Unit}{P:Int->Prop}{ys:List Int}{w':World}{M:Nat}{e0:TypeId}{E:Rw->TypeId}(U:Option Addr)(hc:Nat)(h:List Ob)
theorem H7(h:G:=by
 go_wp2;go_roundw
 case rel=>exact⟨j+1,n,D,by omega,by go_num,G,h_ (by have:=C.out;omega),h_ (HD.out.congr λx=>by rw[y.out,aq.out];simp),aE⟩
 case measure=>simp[pk];omega):G:=h
theorem K9(h:G:=by
 unfold jF;rintro e T⟨A,c,rfl,hl,Z,af⟩;go_wp2;rw[aD.out];exact⟨A,c,rfl,hl,Z,(J.trans am).trans af⟩):G:=h
theorem I9(h:G:=by
 go_roundw
 case rel=>exact⟨i+1,n+1,_,by omega,by go_num,L,by omega,K,bv⟩
 case measure=>simp[pk];omega):G:=h
theorem JC(h:G:=by
 go_wp2
 go_ret2
 exact⟨zq (by rw[D.out,Q_ aY.out]) (by rw[aq.out,Q_ aY.out]),rfl⟩):G:=h
theorem JH(h:G:=by
 have HG:=h_ hg;clear hg;go_wp2;go_ret;exact⟨iq (by rw[HG.out];rfl),hg1.alloc _⟩):G:=h
section
open Go.RowKit Go.Maps
structure nE(D:DataW Unit)(P:Int->Prop):Prop where
 oT:∃es,D=.map es/\es.Pairwise (λp q=>p.1≠q.1)/\∀p∈es,∃x,p.1=.int .i64 x
 has:∀x,Maps.has D (.int .i64 x)=true↔P x
theorem nE.empty:nE (.map []) (λ_=>False):=⟨⟨[],rfl,List.Pairwise.nil,λp hp=>by cases hp⟩,λx=>by simp[Maps.has]⟩
theorem nE.congr{P':Int->Prop}(h:nE D P)(hp:∀x,P x↔P' x):nE D P':=⟨h.oT,λx=>(h.has x).trans (hp x)⟩
theorem nE.put(h:nE D P)(n:Int)(d:DataW Unit):nE (D.put (.int .i64 n) d) (λx=>P x∨x=n):=by
 obtain⟨es,rfl,hp,hk⟩:=h.oT;have V:Maps.Tidy (DataW.map es):=⟨es,rfl,hp⟩
 have H:WideAt.IsKeyLit (.int .i64 n):=by simp[WideAt.IsKeyLit]
 obtain⟨a,aL,aN⟩:=V.put H d;refine⟨⟨a,aL,aN,λp hp=>?_⟩,λx=>?_⟩
 .have bN:=by
   have:DataW.map a=.map (DataW.insert (.int .i64 n,d) (es.filter λp=> !p.1.sameKey (.int .i64 n))):=aL.symm
   injection this
  rw[bN]at hp
  rcases M_.1 ((WideShapes.insert_perm _ _).mem_iff.1 hp)with rfl|hp
  .exact⟨n,rfl⟩
  .exact hk p (EO.1 hp).1
 .by_cases e:x=n
  .subst e;simp[Maps.has_put_same V.isMap H]
  .rw[Maps.has_put_other (by intro h;injection h with _ h;exact e h)];rw[h.has];simp[e]
theorem nE.del(h:nE D P){pd:Lit->DataW Unit->Bool}{q:Int->Bool}(aq:∀x d,pd (.int .i64 x) d=q x):nE (Lib.deleteFuncD pd D) (λx=>P x/\q x=false):=by
 obtain⟨es,rfl,hp,hk⟩:=h.oT;refine⟨⟨_,rfl,hp.filter _,λp hp=>hk p (EO.1 hp).1⟩,λx=>?_⟩;rw[<-h.has]
 show(es.filter λp=> !pd p.1 p.2).any (λp=>p.1.sameKey (.int .i64 x))=true↔es.any (λp=>p.1.sameKey (.int .i64 x))=true/\_
 rw[List.any_eq_true,List.any_eq_true];constructor
 .rintro⟨p,hp,hs⟩;obtain⟨h1,h2⟩:=EO.1 hp;have e:=WideAt.sameKey_eq hs;rw[e,aq]at h2;exact⟨⟨p,h1,hs⟩,by simpa using h2⟩
 .rintro⟨⟨p,h1,hs⟩,h2⟩;have e:=WideAt.sameKey_eq hs;exact⟨p,EO.2 ⟨h1,by rw[e,aq,h2];rfl⟩,hs⟩
theorem nE.perm(h:nE D P)(hy:Asc ys P):ys.Perm (intKeys D):=by
 obtain⟨es,rfl,hp,hk⟩:=h.oT
 exact perm_intKeys hp hk hy.nodup λx=>(hy.mem x).trans (h.has x).symm
theorem nE.size(h:nE D P)(hy:Asc ys P):Maps.size D=ys.length:=by
 have h1:=(h.perm hy).length_eq;obtain⟨es,rfl,hp,hk⟩:=h.oT;rw[h1]
 show es.length=(es.map _).length
 rw[Et]
theorem Asc.sorted{Z:List Int}(h:Asc ys P)(hp:Z.Perm ys):Z.mergeSort leI=ys:=by
 rw[mergeSort_of_perm_i hp];exact List.mergeSort_of_pairwise (h.lt.imp λh=>by simp only[leI,EP];omega)
end
section
open Go.RowKit Go.Maps
def pk:Value->Int
 | .int _ q=>q
 |_=>0
def qP(w:World)(M n:Nat)(D:DataW Unit):Prop:=w.ownsMap prog 2 (plainElem prog 4) M n D
theorem qP.kept{w:World}{n:Nat}{L:List Nat}(h:qP w M n D)(hg:Gr L w w')(z:M∉L):qP w' M n D:=by
 have aj:=World.ownsMap.lt h;obtain⟨es,a,hb,F,hs,hD⟩:=h;exact⟨es,a,(hg.block M aj z).trans hb,F,hs,hD⟩
theorem qP.put{w:World}{n:Nat}(h:qP w M n D)(hn:n<9223372036854775807){x:Int}(I:j9 x):
 ∃w',(Instr.mapUpdate 106 (.map (some M)) (.int .i64 x) (.bool true)).run prog w=.ok () w'/\qP w' M (n+1) (D.put (.int .i64 x) (.lit (.bool true)))/\Gr [M] w w':=by
 obtain⟨w',h1,h2,h3⟩:=World.ownsMap.update h (int_keyed underlying2) underlying106 (by unfold maxLen;omega) (keyOf_int_mk underlying2 (a:=x) I) (plainElem_bool underlying4 true);exact⟨w',h1,h2,(D_ [M] w).grown h3 (λk hk=>by injection hk with hk;subst hk;exact .inl s_)⟩
def Bl(P:Int->Prop)(w:World)(e:Ending)(w':World):Prop:=∃(M n:Nat) (D:DataW Unit),e=.returned (.map (some M))/\w.heap.size<=M/\qP w' M n D/\(n:Int)<=1000000000000000000/\nE D P/\Gr [] w w'
theorem q4(l:List Rw)(w:World)(av:qT e0 w U l)(hR:pL E w l)(hn:l.length<=100000000)(aK:∀x∈iP (hN l),j9 x):
 Calls prog 57 #[.agg #[.slice U l.length hc]] w (Bl (· ∈iP (hN l)) w):=by
 refine hX λQ aD=>?_
 have au:= @run_makeMap prog;obtain⟨W,g,aZ,hg,J,hB⟩:=box1 w 35 #[.slice U l.length hc];have a:qP (W.alloc (.map #[] 0)) W.heap.size 0 (.map []):=World.ownsMap_made W prog 2 (plainElem prog 4);have bl:=h_ aK;clear aK;have ay:=J.alloc (.map #[] 0);have az:=hB.g_ ((D_ [] W).alloc (.map #[] 0));have aS:=az.f_ 0
 go_enter func57,ntmps57
 go_wp2;obtain⟨R,b5⟩:=nm_ (W.alloc (.map #[] 0));obtain⟨M,z⟩:=nm_ W.heap.size;rw[<-b5,<-z]at a;rw[<-b5]at ay az aS
 have d:w.heap.size<=M:=by rw[z];exact J.size
 have e:M≠g:=by have:=hB.lt;omega
 try rw[<-b5]
 try rw[<-z]
 clear b5 z au hB J
 have u:M∉([]:List Nat):=by simp
 go_loopw [12] (λar wr=>∃(i n:Nat) (D:DataW Unit),i<=l.length/\ar=.int .i64 i/\qP wr M n D/\Hid ((n:Int)<=i*1000000000)/\Hid (nE D (· ∈iP ((hN l).take i)))/\Gr [] w wr) (λar _=>l.length-(pk ar).toNat)
 case atStart=>exact⟨0,0,.map [],N_ _,rfl,a,h_ s_,h_ (nE.empty.congr λx=>by simp[iP]),ay⟩
 case round=>
  clear a ay aS az;obtain⟨i,n,D,hi,rfl,hD,a2,HD,hg⟩:=hrel
  by_cases aj:i<l.length
  .obtain⟨b,off,P,bj,be⟩:=av.at_ aj;subst P;obtain⟨hv,bO⟩:=hR _ (J_ aj)
   have bL:=h_ (show iP ((hN l).take (i+1))=iP ((hN l).take i)++mx l[i].o.fs by
    have bm:i<(hN l).length:=by rw[hW];exact aj
    rw[sH bm]
    simp[hN])
   have ap:=h_ (show ∀v∈l[i].o.fs,isRef v=true->j9 v.n from λv hv hr=>by
    refine bl.out _ ?_;unfold iP mx hN;rw[E2]
    exact⟨l[i].o,D2.2 ⟨l[i],J_ aj,rfl⟩,D2.2 ⟨v,EO.2 ⟨hv,hr⟩,rfl⟩⟩)
   generalize l[i]=r at*;have aI:=hg.f_ bj s_;have c1:=hg.f_ be s_;clear bj be;have aE:=(D_ [] wr).alloc (.cells #[.int .i64 r.o.id,.slice r.A r.o.fs.length r.c] 56);have G:=hD.kept aE u;have a8:=hg.trans aE;have f:=L_ wr 56 #[.int .i64 r.o.id,.slice r.A r.o.fs.length r.c];obtain⟨hq0,hq1⟩:=f.iB;clear hD aE
   go_wp2_with fail
   generalize wr.alloc (.cells #[.int .i64 r.o.id,.slice r.A r.o.fs.length r.c] 56)=ah at*;generalize wr.heap.size=h at*
   go_loopw [19] (λar wr=>∃(j n:Nat) (D:DataW Unit),j<=r.o.fs.length/\ar=.int .i64 j/\qP wr M n D/\Hid ((n:Int)<=i*1000000000+j)/\Hid (nE D (· ∈iP ((hN l).take i)++mx (r.o.fs.take j)))/\Gr [] w wr) (λar _=>r.o.fs.length-(pk ar).toNat)
   case atStart=>exact⟨0,n,D,N_ _,by go_num,G,h_ (by have:=a2.out;omega),h_ (HD.out.congr λx=>by simp[mx]),a8⟩
   case round=>
    clear G a8 hq0 hq1 f a2 HD;obtain⟨j,n,D,hj,rfl,hD,a2,HD,ad⟩:=hrel
    by_cases B:j<r.o.fs.length
    .obtain⟨b2,p,m,b4,bo⟩:=hv.at_ B;have y:=h_ (sG B);have c:=h_ (ap.out _ (J_ B));have C:=h_ (show((n+1:Nat):Int)<=i*1000000000+(j+1:Nat) by have:=a2.out;omega)
     have F:n<9223372036854775807:=by have:=a2.out;omega
     generalize r.o.fs[j]=v at*;have p0:=ad.f_ b4 s_;have p1:=ad.f_ bo s_;clear b4 bo;have aE:=ad.alloc (.cells #[.bool v.r,.int .i64 v.n] 38);have G:=hD.kept ((D_ [] wr).alloc (.cells #[.bool v.r,.int .i64 v.n] 38)) u
     cases Y:v.r with
     |false=>
      rw[Y]at p0 G aE;have aq:=h_ (show isRef v=false by unfold isRef;rw[Y];rfl);clear Y hD;exact H7
     |true=>
      rw[Y]at p0 G aE
      by_cases X:v.n=0
      .have q:(v.n !=0)=false:=by simp[X]
       have aq:=h_ (show isRef v=false by unfold isRef;rw[q,Bool.and_false]);clear Y X hD;exact H7
      .have q:(v.n !=0)=true:=by simp[X]
       have aq:=h_ (show isRef v=true by unfold isRef;rw[Y,q];rfl);obtain⟨T,H,L,af⟩:=G.put F (c.out aq.out);have bv:=aE.hx af (by simpa using d);have K:=h_ ((HD.out.put v.n (.lit (.bool true))).congr (P':=(· ∈iP ((hN l).take i)++mx (r.o.fs.take (j+1)))) λx=>by rw[y.out,aq.out,Q_ rfl,<-Er,T_ (t:=[v.n]),R_]);have b8:=C.out;clear Y X hD G aE af a2 HD;go_wp2;go_roundw
       case rel=>exact⟨j+1,n+1,_,by omega,by go_num,L,h_ b8,K,bv⟩
       case measure=>simp[pk];omega
    .go_wp2;go_roundw
     case rel=>exact⟨i+1,n,D,by omega,by go_num,hD,h_ (by have:=a2.out;omega),h_ (by rw[bL.out];exact HD.out.congr λx=>by rw[W_ (l:=r.o.fs) o_]),ad⟩
     case measure=>simp[pk];omega
  .go_wp2;rw[aD.out];have h2:=HD.out;rw[W_ (by rw[hW];omega)]at h2;have h3:=a2.out;clear a2;exact⟨M,n,D,rfl,d,hD,by omega,h2,hg⟩
end
section
open Go.RowKit Go.Maps Go.Sort Go.Shelf
theorem sortsA(m:Nat):AnyZI.SortsIn prog sortedA_ren Fence.wide m:=
 ⟨λyC off kX Z W z a au=>callsIn_wide.2 (AnyM.slices_Sort_int sortA yC off kX Z W z a au),
  λp kX W=>callsIn_wide.2 (AnyM.slices_Sort_int_none sortA p kX W)⟩
theorem wj(b u:Nat)(k:DataW Unit)(R:Value->Option (DataW Unit × List MemPlace))(w:World)(ao:w.ownsMap prog 2 R b u k)(h:Maps.size k<=maxLen)(f:Maps.size k*8<=140737488355328):
 Calls prog 61 #[.map (some b)] w λe w'=>∃(v:Value) (Z:List Int),e=.returned v/\Z.Perm (intKeys k)/\
  w'.ownsRow w.heap.size 2 1 v Z.length ((Z.mergeSort (λx y=>decide (x<=y))).map encZ)/\(v=n_↔Z=[])/\Below w.heap.size w w':=by
 refine(callsIn_wide (n:=6)).1 ?_;have hbl:=ao.lt
 have j:SeqGives Fence.wide 2 prog 153 #[q_ w.heap.size] encZ (λZ=>Z.Perm (intKeys k)) (Maps.size k) (w.alloc (.cells #[.map (some b)] 106)):=
  AnyZI.keys_gives (ρ:=keysA_ren) {keysA with} Fence.wide _ trivial rfl o_ w.heap.size b u k _ s_ s_ (by
   obtain⟨es,a,hb,d,hs,hD⟩:=ao
   exact⟨es,a,(Below.heap_alloc _ _ b hbl).trans hb,d,hs,hD⟩)
 have g:∀mb W,CallsIn Fence.wide 5 prog 105 #[.map mb] W λe w'=>e=.returned (.func (.func 153) #[] #[q_ W.heap.size])/\w'=W.alloc (.cells #[.map mb] 106):=λmb W=>AnyZI.keys_in keysA Fence.wide 5 trivial rfl mb W
 have c:=AnyZI.sorted_in sortedA Fence.wide 5 trivial trivial trivial trivial rfl o_ (sortsA _) (enters_of func107 k_ rfl) 153 #[q_ w.heap.size] trivial (enters_of func153 k_ rfl) _ _ h f _ j
 change CallsIn _ _ prog 104 _ _ _ at c
 have l:Fence.wide.fn 105:=trivial;have m:Fence.wide.fn 104:=trivial;refine callsIn_of_wp func61 rfl trivial ?_ rfl;simp only[ntmps61,List.size_toArray,D3,EB,Nat.reduceAdd,Nat.reduceSub,Array.replicate_succ,Array.replicate_zero,List.push_toArray,List.append_toArray,Ea,FE]
 gi_wp2_with (first
  |(gi_at_call 105;refine(g _ _).mono ?_;rintro e w'⟨rfl,rfl⟩)
  |(gi_at_call 104;refine c.mono ?_;rintro e w'⟨v,Z,rfl,C,aq,i,hb⟩))
 go_ret;exact⟨v,Z,rfl,C,ownsRow_base_a aq s_,i,((Below.refl _ w).alloc (G_ _) _).trans (hb.mono s_)⟩
theorem xm:Keyed prog 2:=int_keyed underlying2
theorem Gr.zW{w:World}(h:Gr [] w w'):w.grownBy w' none:=h.tK none
theorem Gr.pE{w:World}(h:w.grownBy w' (some M)):Gr [M] w w':=(D_ [M] w).grown h (λk hk=>by injection hk with hk;subst hk;exact .inl s_)
theorem nJ{n:Nat}{w:World}(z:qP w M n D)(hD:nE D P)(hy:Asc ys P)(hl:ys.length<=50000000):
 Calls prog 61 #[.map (some M)] w (jF ys w):=by
 have hs:=hD.size hy;refine(wj M n D (plainElem prog 4) w z (by rw[hs];unfold maxLen;omega) (by rw[hs];omega)).mono ?_;rintro e w'⟨v,Z,rfl,C,aq,_,hb⟩;have he:=hy.sorted (C.trans (hD.perm hy).symm)
 have iv:Z.length=ys.length:=by rw[<-he,List.length_mergeSort]
 rw[show(Z.mergeSort λx y=>decide (x<=y))=ys from he,iv]at aq
 obtain⟨A,c,rfl⟩:∃A c,v=.slice A ys.length c:=by
  rcases aq.2 with⟨h1,h0⟩|⟨g,kX,cur,hv,_⟩
  .exact⟨none,0,by rw[h0];exact h1⟩
  .exact⟨_,_,hv⟩
 exact⟨A,c,rfl,Sl.iG aq,iQ aq,Gr.zG hb []⟩
theorem x3(l:List Rw)(w:World)(av:qT e0 w U l)(hR:pL E w l)(hn:l.length<=100000000)(hf:vS (iP (hN l)))(aK:∀x∈iP (hN l),j9 x):
 Calls prog 22 #[.agg #[.slice U l.length hc]] w (jF (lT (iP (hN l))) w):=by
 refine hX λQ aD=>?_
 obtain⟨W,g,aZ,hg,J,hB⟩:=box1 w 35 #[.slice U l.length hc];have aI:=mv hf (λx I=>I);have aW:=h_ (q4 U hc l W (av.g_ J) (hR.g_ J) hn aK);have aS:=hB.f_ 0;clear hf aK av hR
 go_enter func22,ntmps22
 go_wp2_with (first
  |(go_at_call 57;refine aW.out.mono ?_;unfold Bl;rintro e w2⟨M,n,D,rfl,f,z,bq,hD,ad⟩)
  |(go_at_call 61;refine(nJ z hD (lS _) aI).mono ?_;unfold jF;rintro e ai⟨A,c,rfl,hl,Z,S⟩))
 rw[aD.out];exact⟨A,c,rfl,hl,Z,(J.trans ad).trans S⟩
theorem vp{tb:TypeId}(A:Option Addr)(c:Nat)(l:List Int)(n:Int)(w:World)(h:Ns w tb A l)(hl:l.length<=1000000000):
 Calls prog 106 #[.slice A l.length c,i_ n] w λe w'=>∃i:Int,e=.returned (i_ i)/\decide (0<=i)=decide (n∈l)/\w=w':=by
 refine hX λQ aD=>?_
 go_enter func106,ntmps106
 go_wp2
 go_loop [8] (λar=>∃k:Nat,k<=l.length/\ar=i_ k/\n∉l.take k) (λar=>l.length-(pk ar).toNat)
 case atStart=>exact⟨0,N_ _,by go_num,by simp⟩
 case round=>
  obtain⟨k,hk,rfl,G⟩:=hrel;have aR:=h_ G;clear G
  by_cases aj:k<l.length
  .obtain⟨b,off,U,hc⟩:=h.at_ aj;subst U;have ah:=hc;have bL:=h_ (show n=l[k]->n∈l from λe=>e▸J_ aj)
   have bB:=h_ (show n≠l[k]->n∉l.take (k+1) from λhe=>by
    rw[O_ aj,T_];rintro(h1|h1)
    .exact aR.out h1
    .exact he (R_.1 h1))
   generalize l[k]=x at*
   by_cases he:n=x
   .have q:(n==x)=true:=by simp[he]
    have O:=h_ (bL.out he);clear he;go_wp2;rw[aD.out];exact⟨k,rfl,by rw[Ek O.out,Ek o_],rfl⟩
   .have q:(n==x)=false:=by simp[he]
    have O:=h_ (bB.out he);clear he;go_wp2;go_round
    case rel=>exact⟨k+1,by omega,by go_num,O.out⟩
    case measure=>simp[pk];omega
  .go_wp2;rw[aD.out]
   have hn:=by have:=aR.out;rwa [W_ o_]at this
   exact⟨-1,rfl,by rw[EU hn];rfl,rfl⟩
theorem s4{tb:TypeId}(A:Option Addr)(c:Nat)(l:List Int)(n:Int)(w:World)(h:Ns w tb A l)(hl:l.length<=1000000000):
 Calls prog 63 #[.slice A l.length c,i_ n] w λe w'=>e=.returned (.bool (decide (n∈l)))/\w=w':=by
 refine hX λQ aD=>?_
 have aW:=h_ (vp A c l n w h hl)
 go_enter func63,ntmps63
 go_wp2_with (go_at_call 106;refine aW.out.mono ?_;rintro e w'⟨i,rfl,hi,rfl⟩;have aR:=h_ hi;clear hi)
 all_goals
  rw[aD.out,<-aR.out];exact⟨rfl,rfl⟩
end
section
open Go.RowKit Go.Maps Go.Sort Go.Shelf
theorem vw(l:List Rw)(m:Int)(val:Value)(bx:Nat)(W:World)(I:Bk W bx 35 #[.slice U l.length hc])(av:qT e0 W U l)(hR:pL E W l)(hn:l.length<=1000000000):
 Calls prog 59 (#[i_ m,val]++ #[q_ bx]) W λe w'=>e=.returned (.bool (jn (hN l) m).isSome)/\Gr [] W w':=by
 have bX:=I.f_ 0
 go_enter func59,ntmps59
 go_wp2_with fail
 go_at_call 60
 refine(ym U hc l m W av hR hn).mono ?_;rintro e w1(⟨hg,rfl,hg1⟩|⟨o,A1,c1,hg,rfl,hv1,hg1⟩)
 .exact JH
 .exact JH
def there(l:List Ob)(k:Lit)(_:DataW Unit):Bool:=match k with
 | .int _ k=>(jn l k).isSome
 |_=>false
theorem t_(l:List Rw)(w:World)(av:qT e0 w U l)(hR:pL E w l)(hn:l.length<=100000000)(hf:vS (iP (hN l)))(aK:∀x∈iP (hN l),j9 x):
 Calls prog 15 #[.agg #[.slice U l.length hc]] w (jF (pP (hN l)) w):=by
 refine hX λQ aD=>?_
 obtain⟨W,g,aZ,hg,J,hB⟩:=box1 w 35 #[.slice U l.length hc];have aI:(pP (hN l)).length<=50000000:=F_ (Em _ _) (mv hf (λx I=>I))
 have a:Asc (pP (hN l)) (λx=>x∈iP (hN l)/\(jn (hN l) x).isSome=false):=by
  have h:=lS (iP (hN l));refine⟨h.lt.filter _,λx=>?_⟩;unfold pP;rw[EO,h.mem]
  cases jn (hN l) x<;>simp
 have aW:=h_ (q4 U hc l W (av.g_ J) (hR.g_ J) hn aK);have aS:=hB.f_ 0
 go_enter func15,ntmps15
 go_wp2_with fail
 go_at_call 57
 refine aW.out.mono ?_;unfold Bl;rintro e w2⟨M,n,D,rfl,f,z,bq,hD,ad⟩;have p:∀args w,(callFunc 59 args).run prog w=.ok (.enter 59 args) w:=enters_of func59 k_ rfl
 have s:Calls prog 58 #[.map (some M),.func (.func 59) #[] #[q_ g]] w2 (λe w'=>e=.returned (.tuple #[])/\w'.ownsMap prog 2 (plainElem prog 4) M n (Lib.deleteFuncD (there (hN l)) D)/\w2.grownBy w' (some M)):=
  AnyDf.maps_DeleteFunc delN xm (plainElem prog 4) (there (hN l)) 59 #[q_ g] M n D w2 p z (λaJ m val j X Y y hk _=>by
   obtain⟨x,rfl,rfl,_⟩:=Maps.keyOf_int_inv underlying2 hk;have aE:=ad.hx (Gr.pE y) (by simpa using f);have a8:=J.trans aE
   exact(vw U hc l x val g aJ (hB.g_ aE) (av.g_ a8) (hR.g_ a8) o_).mono λe w' h=>⟨h.1,h.2.zW⟩)
 have C:=h_ s;have b:=hD.del (pd:=there (hN l)) (q:=λx=>(jn (hN l) x).isSome) (λx d=>rfl);clear s av hR hf aK hD aS
 go_wp2_with fail
 go_at_call 58
 refine C.out.mono ?_;rintro e ai⟨rfl,F,S⟩;have am:=ad.hx (Gr.pE S) (by simpa using f)
 go_wp2_with fail
 go_at_call 61
 refine(nJ (w:=ai) F b a aI).mono ?_;exact K9
end
section
open Go.RowKit Go.Maps Go.Sort Go.Shelf
theorem qf{n:Int}(h:j9 n):n<=9223372036854775807:=by
 have h:(Lit.int .i64 n).wf=true:=h;simp[Lit.wf,IntKind.min,IntKind.max,IntKind.signed,IntKind.bits]at h;omega
theorem uj{n:Int}(h0: -9223372036854775808<=n)(h1:n<=9223372036854775807):j9 n:=WalkArith.wf_i64 o_
theorem BW{n:Int}(h:j9 n):j9 (tv n):=by
 have:=qf h
 unfold tv;split
 .exact uj d_ d_
 .exact uj o_ o_
theorem xZ(l:List Rw)(w:World)(av:qT e0 w U l)(hn:l.length<=50000000)(aK:∀r∈l,j9 r.o.id):
 Calls prog 17 #[.agg #[.slice U l.length hc]] w (jF (lT (kD (hN l))) w):=by
 refine hX λQ aD=>?_
 have au:= @run_makeMap prog;obtain⟨W,g,aZ,hg,J,hB⟩:=box1 w 35 #[.slice U l.length hc];have a:qP (W.alloc (.map #[] 0)) W.heap.size 0 (.map []):=World.ownsMap_made W prog 2 (plainElem prog 4)
 have m:=h_ (show(lT (kD (hN l))).length<=50000000 by
  have h1:=sC (kD (hN l));have h2:=q2 (hN l);rw[hW]at h2
  omega)
 have ay:=J.alloc (.map #[] 0);have aS:=(hB.g_ ((D_ [] W).alloc (.map #[] 0))).f_ 0
 go_enter func17,ntmps17
 go_wp2_with fail
 obtain⟨R,b5⟩:=nm_ (W.alloc (.map #[] 0));obtain⟨M,z⟩:=nm_ W.heap.size;rw[<-b5,<-z]at a;rw[<-b5]at ay aS
 have d:w.heap.size<=M:=by rw[z];exact J.size
 try rw[<-b5]
 try rw[<-z]
 clear b5 z au hB J
 have u:M∉([]:List Nat):=by simp
 go_loopw [13] (λar wr=>∃(i n:Nat) (D:DataW Unit),i<=l.length/\ar=i_ i/\qP wr M n D/\n<=i/\Hid (nE D (· ∈kD ((hN l).take i)))/\Gr [] w wr) (λar _=>l.length-(pk ar).toNat)
 case atStart=>exact⟨0,0,.map [],N_ _,rfl,a,G_ _,h_ (nE.empty.congr λx=>by simp[kD]),ay⟩
 case round=>
  clear a ay aS;obtain⟨i,n,D,hi,rfl,hD,N,HD,hg⟩:=hrel
  by_cases aj:i<l.length
  .obtain⟨b,off,P,bj,be⟩:=av.at_ aj;subst P;have hid:=aK _ (J_ aj)
   have bG:=h_ (show kD ((hN l).take (i+1))=kD ((hN l).take i)++(if qC l[i].o.id=true then[tv l[i].o.id] else[]) by
    have bm:i<(hN l).length:=by rw[hW];exact aj
    rw[sD bm]
    simp[hN])
   generalize l[i]=r at*;have aI:=hg.f_ bj s_;have c1:=hg.f_ be s_;clear bj be;have aE:=(D_ [] wr).alloc (.cells #[i_ r.o.id,.slice r.A r.o.fs.length r.c] 56);have G:=hD.kept aE u;have a8:=hg.trans aE;have f:=L_ wr 56 #[i_ r.o.id,.slice r.A r.o.fs.length r.c];obtain⟨hq0,hq1⟩:=f.iB;have j:=qY r.o.id (wr.alloc (.cells #[i_ r.o.id,.slice r.A r.o.fs.length r.c] 56)) (qf hid);clear hD aE
   cases hr:qC r.o.id with
   |true=>
    have q:decide (1048576<=r.o.id)=true:=hr;rw[q]at j;have aW:=h_ j;obtain⟨T,H,L,af⟩:=G.put o_ (BW hid);have bv:=a8.hx af (by simpa using d);have K:=h_ ((HD.out.put (tv r.o.id) (.lit (.bool true))).congr (P':=(· ∈kD ((hN l).take (i+1)))) λx=>by rw[bG.out,hr,Q_ rfl,T_ (t:=[tv r.o.id]),R_]);clear hr q j HD G af a8
    go_wp2_with (go_at_call 13;refine aW.out.mono ?_;rintro e w2⟨rfl,rfl⟩)
    exact I9
   |false=>
    have q:decide (1048576<=r.o.id)=false:=hr;rw[q]at j;have aW:=h_ j;have aR:=h_ (show kD ((hN l).take (i+1))=kD ((hN l).take i) by rw[bG.out,hr,P_ d_,List.append_nil]);clear hr q j
    go_wp2_with (go_at_call 13;refine aW.out.mono ?_;rintro e w2⟨rfl,rfl⟩)
    go_roundw
    case rel=>exact⟨i+1,n,D,by omega,by go_num,G,by omega,h_ (by rw[aR.out];exact HD.out),a8⟩
    case measure=>simp[pk];omega
  .go_wp2_with fail
   have h2:=HD.out;rw[W_ (by rw[hW];omega)]at h2
   go_at_call 61
   refine(nJ hD h2 (lS _) m.out).mono ?_;unfold jF;rintro e T⟨A,c,rfl,hl,Z,af⟩;go_wp2;rw[aD.out];exact⟨A,c,rfl,hl,Z,hg.trans af⟩
theorem uA{tb:TypeId}(B:Option Addr)(d:Nat)(rs:List Int)(m:Int)(val:Value)(bx:Nat)(W:World)(I:Bk W bx 27 #[.slice B rs.length d])(hB:Ns W tb B rs)(bh:rs.length<=1000000000)(hk:j9 m):
 Calls prog 62 (#[i_ m,val]++ #[q_ bx]) W λe w'=>e=.returned (.bool (!np rs m))/\Gr [] W w':=by
 refine hX λQ aD=>?_
 have aS:=I.f_ 0;have j:=qY m W (qf hk);have bZ:=s4 B d rs (tv m) W hB bh
 cases hr:qC m with
 |true=>
  have q:decide (1048576<=m)=true:=hr;rw[q]at j;have aW:=h_ j;have a2:=h_ bZ;have aR:=h_ (show(!np rs m)= !decide (tv m∈rs) by unfold np;rw[hr,Bool.true_and]);clear hr q j bZ
  go_enter func62,ntmps62
  go_wp2_with (first|(go_at_call 13;refine aW.out.mono ?_;rintro e w2⟨rfl,rfl⟩)|(go_at_call 63;refine a2.out.mono ?_;rintro e w2⟨rfl,rfl⟩))
  all_goals
   rw[aD.out,aR.out];exact⟨rfl,D_ _ _⟩
 |false=>
  have q:decide (1048576<=m)=false:=hr;rw[q]at j;have aW:=h_ j;have aR:=h_ (show(!np rs m)=true by unfold np;rw[hr];rfl);clear hr q j bZ
  go_enter func62,ntmps62
  go_wp2_with (go_at_call 13;refine aW.out.mono ?_;rintro e w2⟨rfl,rfl⟩)
  all_goals
   rw[aD.out,aR.out];exact⟨rfl,D_ _ _⟩
end
section
open Go.RowKit Go.Maps Go.Sort Go.Shelf
def wz(rs:List Int)(k:Lit)(_:DataW Unit):Bool:=match k with
 | .int _ k=> !np rs k
 |_=>false
theorem Ak:Asc (allH h) (λx=>x∈iP h∨x∈nu h):=by
 have h1:=lS (iP h++nu h);exact⟨h1.lt,λx=>by unfold allH;rw[h1.mem,T_]⟩
theorem yk(rs:List Int):Asc (oG h rs) (λx=>(x∈iP h∨x∈nu h)/\(!np rs x)=false):=by
 have h1:=Ak h;refine⟨h1.lt.filter _,λx=>?_⟩;unfold oG;rw[EO,h1.mem];simp
theorem wG{tb:TypeId}(l:List Rw)(B:Option Addr)(d:Nat)(rs:List Int)(w:World)(av:qT e0 w U l)(hR:pL E w l)(hn:l.length<=50000000)(hf:vS (iP (hN l)++nu (hN l)))(aK:∀x∈iP (hN l)++nu (hN l),j9 x)(ax:Ns w tb B rs)(bh:rs.length<=1000000000):
 Calls prog 16 #[.agg #[.slice U l.length hc],.slice B rs.length d] w (jF (oG (hN l) rs) w):=by
 refine hX λQ aD=>?_
 obtain⟨W,g,bf,aZ,hg,ad,J,hB,bo⟩:=B9 w 35 #[.slice U l.length hc] 27 #[.slice B rs.length d];have dt:=h_ (show(oG (hN l) rs).length<=50000000 from F_ (Em _ _) (mv hf (λx I=>I)));have bl:=h_ aK;have aW:=h_ (q4 U hc l W (av.g_ J) (hR.g_ J) o_ (λx I=>aK x (D4 _ I)));have v:=h_ (show ∀w',Gr [] w w'->Ns w' tb B rs from λw' h=>Sl.g_ ax h);have aS:=hB.f_ 0;clear hf aK hR ax
 go_enter func16,ntmps16
 go_upto_region 2 with(go_at_call 57;refine aW.out.mono ?_;unfold Bl;rintro e w2⟨M,n0,k,rfl,f,a,bq,R,bV⟩)
 have z:=h_ R;replace aS:=(hB.g_ bV).f_ 0;clear R
 have u:M∉([]:List Nat):=by simp
 go_wp2_with fail
 go_loopw [13] (λar wr=>∃(i n:Nat) (D:DataW Unit),i<=l.length/\ar=i_ i/\qP wr M n D/\(n:Int)<=1000000000000000000+i/\Hid (nE D (λx=>x∈iP (hN l)∨x∈nu ((hN l).take i)))/\Gr [] W wr) (λar _=>l.length-(pk ar).toNat)
 case atStart=>exact⟨0,n0,k,N_ _,by go_num,a,by simpa using bq,h_ (z.out.congr λx=>by simp[nu]),bV⟩
 case round=>
  clear a bV aS bq;obtain⟨i,n,D,hi,rfl,hD,N,HD,y⟩:=hrel;have hg:=J.trans y
  by_cases aj:i<l.length
  .obtain⟨b,off,P,bj,be⟩:=av.at_ aj;subst P
   have bm:i<(hN l).length:=by rw[hW];exact aj
   have bG:=h_ (show nu ((hN l).take (i+1))=nu ((hN l).take i)++[l[i].o.id] by
    rw[O_ bm]
    simp[nu,hN])
   have hid:=bl.out _ (E5 _ (D2.2 ⟨l[i].o,D2.2 ⟨l[i],J_ aj,rfl⟩,rfl⟩));clear bm;generalize l[i]=r at*;have aI:=hg.f_ bj s_;have c1:=hg.f_ be s_;clear bj be;have aE:=(D_ [] wr).alloc (.cells #[i_ r.o.id,.slice r.A r.o.fs.length r.c] 56);have G:=hD.kept aE u;have a8:=y.trans aE;obtain⟨hq0,hq1⟩:=(L_ wr 56 #[i_ r.o.id,.slice r.A r.o.fs.length r.c]).iB;obtain⟨T,H,L,af⟩:=G.put o_ hid;have bv:=a8.hx af (by simpa using f);have K:=h_ ((HD.out.put r.o.id (.lit (.bool true))).congr (P':=λx=>x∈iP (hN l)∨x∈nu ((hN l).take (i+1))) λx=>by rw[bG.out,T_ (t:=[r.o.id]),R_,or_assoc]);clear hD aE HD G af a8 hid;go_wp2;exact I9
  .have h2:=HD.out;rw[W_ (l:=hN l) (by rw[hW];omega)]at h2;have p:∀args w,(callFunc 62 args).run prog w=.ok (.enter 62 args) w:=enters_of func62 k_ rfl
   have s:Calls prog 58 #[.map (some M),.func (.func 62) #[] #[q_ bf]] wr (λe w'=>e=.returned (.tuple #[])/\w'.ownsMap prog 2 (plainElem prog 4) M n (Lib.deleteFuncD (wz rs) D)/\wr.grownBy w' (some M)):=
    AnyDf.maps_DeleteFunc delN xm (plainElem prog 4) (wz rs) 62 #[q_ bf] M n D wr p hD (λaJ m val j X Y V hk _=>by
     obtain⟨x,rfl,rfl,I⟩:=Maps.keyOf_int_inv underlying2 hk;have aE:=y.hx (Gr.pE V) (by simpa using f)
     exact(uA B d rs x val bf aJ (bo.g_ aE) (v.out _ (J.trans aE)) bh I).mono λe w' h=>⟨h.1,h.2.zW⟩)
   have C:=h_ s;have O:=h_ (h2.del (pd:=wz rs) (q:=λx=> !np rs x) (λx d=>rfl));clear s hD HD h2
   go_wp2_with fail
   go_at_call 58
   refine C.out.mono ?_;rintro e ai⟨rfl,F,S⟩;have am:=y.hx (Gr.pE S) (by simpa using f)
   go_wp2_with fail
   go_at_call 61
   refine(nJ (w:=ai) F O.out (yk (hN l) rs) dt.out).mono ?_;exact K9
end
section
open Go.RowKit Go.Maps Go.Sort Go.Shelf
def qD(run n:Int):Prop:=run<0∨1099511627776<run∨n<0∨1048576<=n
instance (run n:Int):Decidable (qD run n):=by unfold qD;infer_instance
def Dp(run n:Int):Int:=if qD run n then 0 else(run+1)*1048576+n
def Dq(run n:Int):Int:=if qD run n then 2 else 0
theorem zq{a b c d:Int}(h:a=b)(k:c=d):Ending.returned (.tuple #[i_ a,i_ c])=Ending.returned (.tuple #[i_ b,i_ d]):=by rw[h,k]
theorem B4(run n:Int)(w:World):
 Calls prog 43 #[i_ run,i_ n] w λe w'=>e=.returned (.tuple #[i_ (Dp run n),i_ (Dq run n)])/\w=w':=by
 have D:=h_ (show Dp run n=if qD run n then 0 else(run+1)*1048576+n from rfl);have aq:=h_ (show Dq run n=if qD run n then 2 else 0 from rfl)
 by_cases h:qD run n
 .have aY:=h_ h;unfold qD at h
  go_enter func43,ntmps43
  rcases Classical.em (run<0)with h1|h1
  .exact JC
  .rcases Classical.em (1099511627776<run)with h2|h2
   .exact JC
   .rcases Classical.em (n<0)with h3|h3
    .exact JC
    .have aw:1048576<=n:=by omega
     clear h;exact JC
 .have aY:=h_ h;unfold qD at h
  have h1:¬run<0:=by omega
  have h2:¬1099511627776<run:=by omega
  have h3:¬n<0:=by omega
  have aw:¬1048576<=n:=by omega
  clear h
  go_enter func43,ntmps43
  go_wp2
  go_ret2
  exact⟨zq (by rw[D.out,P_ aY.out]) (by rw[aq.out,P_ aY.out]),rfl⟩
def zF(a:Option Addr)(fc:Nat):List Rw:=[⟨⟨1,[⟨true,9⟩]⟩,a,fc⟩]
theorem wn(w:World):Calls prog 10 #[] w λe w'=>e=.returned (.bool true)/\Gr [] w w':=by
 obtain⟨K,P,J⟩:=pG w 38 #[.bool true,i_ 9] 56 #[i_ 1,.slice (j_ w.heap.size) 1 1];have av:Os ((w.alloc (.cells #[.bool true,i_ 9] 38)).alloc (.cells #[i_ 1,.slice (j_ w.heap.size) 1 1] 56)) (j_ (w.heap.size+1)) (zF (j_ w.heap.size) 1):=xw (r:=⟨⟨1,[⟨true,9⟩]⟩,some (c_ w.heap.size 0),1⟩) P
 have hR:mW ((w.alloc (.cells #[.bool true,i_ 9] 38)).alloc (.cells #[i_ 1,.slice (j_ w.heap.size) 1 1] 56)) (zF (j_ w.heap.size) 1):=by
  intro r hr
  have:r=⟨⟨1,[⟨true,9⟩]⟩,some (c_ w.heap.size 0),1⟩:=by simpa[zF]using hr
  subst this;exact⟨BD (v:=⟨true,9⟩) K,Fy rfl⟩
 have N:=B4 0 0 w;rw[show Dp 0 0=1048576 by decide,show Dq 0 0=0 by decide]at N;have C:=qY 1048579 w o_;rw[show tv 1048579=0 by decide,show Cu 1048579=3 by decide,show decide ((1048576:Int)<=1048579)=true by decide]at C
 go_enter func10,ntmps10
 go_wp2_with fail
 go_at_call 43
 refine N.mono ?_;rintro e w1⟨rfl,rfl⟩
 go_wp2_with fail
 go_at_call 13
 refine C.mono ?_;rintro e w1⟨rfl,rfl⟩;clear N C
 go_wp2_with fail
 go_at_call 15
 have a:=t_ (j_ (w.heap.size+1)) 1 _ _ av.e hR.e (Fy rfl) (vS.of_le (Fy rfl)) (by intro x I;have:x=9:=(by simpa[iP,mx,hN,zF,isRef]using I);subst this;rfl);rw[show pP (hN (zF (j_ w.heap.size) 1))=[9] from rfl]at a;refine a.mono ?_;unfold jF;rintro e w2⟨A,c,rfl,be,_,ad⟩;have bH:=J.trans ad;replace be:Sl w2 2 1 A 1 [i_ 9]:=be;obtain⟨dx,b,rfl,hi⟩:=be.f_ o_;have bw:=hi 0 _ rfl;simp only[Fe]at bw;clear hi be av hR K P;go_wp2;go_ret;exact⟨rfl,bH⟩
end
structure mG(l:List Rw):Prop where
 len:l.length<=50000000
 few:vS (iP (hN l)++nu (hN l))
 wf:∀x∈iP (hN l)++nu (hN l),j9 x
theorem mG.qu{l:List Rw}(h:mG l):vS (iP (hN l)):=λxs hn hs=>h.few xs hn λx I=>D4 _ (hs x I)
theorem mG.zu{l:List Rw}(h:mG l):∀x∈iP (hN l),j9 x:=λx I=>h.wf x (D4 _ I)
theorem mG.CN{l:List Rw}(h:mG l):∀r∈l,j9 r.o.id:=λr hr=>h.wf _ (E5 _ (D2.2 ⟨r.o,D2.2 ⟨r,hr,rfl⟩,rfl⟩))
structure mX(w:World)(A:Option Addr)(l:List Rw):Prop where
 os:∃e0,qT e0 w A l
 la:∃E,pL E w l
 good:mG l
theorem mX.g_{w:World}{A:Option Addr}{l:List Rw}(h:mX w A l)(hg:Gr [] w w'):mX w' A l:=by
 obtain⟨⟨e,h1⟩,⟨E,h2⟩,h3⟩:=h;exact⟨⟨e,h1.g_ hg⟩,⟨E,h2.g_ hg⟩,h3⟩
section
variable{w:World}{A B:Option Addr}{l:List Rw}{rs:List Int}{tb:TypeId}
theorem mX.CE(h:mX w A l)(c:Nat):Calls prog 22 #[.agg #[.slice A l.length c]] w (jF (lT (iP (hN l))) w):=by
 obtain⟨⟨e,h1⟩,⟨E,h2⟩,h3⟩:=h;exact x3 A c l w h1 h2 (by have:=h3.len;omega) h3.qu h3.zu
theorem mX.CD(h:mX w A l)(c:Nat):Calls prog 23 #[.agg #[.slice A l.length c]] w (jF (lT (iP (hN l))) w):=by
 obtain⟨⟨e,h1⟩,⟨E,h2⟩,h3⟩:=h;exact pY A c l w h1 h2 (by have:=h3.len;omega) h3.qu
theorem mX.CU(h:mX w A l)(c:Nat):Calls prog 15 #[.agg #[.slice A l.length c]] w (jF (pP (hN l)) w):=by
 obtain⟨⟨e,h1⟩,⟨E,h2⟩,h3⟩:=h;exact t_ A c l w h1 h2 (by have:=h3.len;omega) h3.qu h3.zu
theorem mX.CT(h:mX w A l)(c:Nat):Calls prog 24 #[.agg #[.slice A l.length c]] w (jF (pP (hN l)) w):=by
 obtain⟨⟨e,h1⟩,⟨E,h2⟩,h3⟩:=h;exact wP A c l w h1 h2 (by have:=h3.len;omega) h3.qu
theorem mX.Cy(h:mX w A l)(c:Nat):Calls prog 17 #[.agg #[.slice A l.length c]] w (jF (lT (kD (hN l))) w):=by
 obtain⟨⟨e,h1⟩,⟨E,h2⟩,h3⟩:=h;exact xZ A c l w h1 h3.len h3.CN
theorem mX.Cx(h:mX w A l)(c:Nat):Calls prog 25 #[.agg #[.slice A l.length c]] w (jF (lT (kD (hN l))) w):=by
 obtain⟨⟨e,h1⟩,⟨E,h2⟩,h3⟩:=h
 exact wt A c l w h1 h3.len λr hr=>qf (h3.CN r hr)
theorem mX.zP(h:mX w A l)(c d:Nat)(ax:Ns w tb B rs)(bh:rs.length<=1000000000):Calls prog 16 #[.agg #[.slice A l.length c],.slice B rs.length d] w (jF (oG (hN l) rs) w):=by
 obtain⟨⟨e,h1⟩,⟨E,h2⟩,h3⟩:=h;exact wG A c l B d rs w h1 h2 h3.len h3.few h3.wf ax bh
theorem mX.zO(h:mX w A l)(c d:Nat)(ax:Ns w tb B rs)(bh:rs.length<=1000000000):Calls prog 26 #[.agg #[.slice A l.length c],.slice B rs.length d] w (jF (oG (hN l) rs) w):=by
 obtain⟨⟨e,h1⟩,⟨E,h2⟩,h3⟩:=h;exact vm A c l B d rs w h1 h2 h3.len h3.few (λx I=>qf (h3.wf x I)) ax bh
end
theorem mG.lens{l:List Rw}(h:mG l)(rs:List Int):(lT (iP (hN l))).length<=50000000/\(pP (hN l)).length<=50000000/\(lT (kD (hN l))).length<=50000000/\(oG (hN l) rs).length<=50000000:=by
 have h1:=mv h.qu (λx I=>I);refine⟨h1,F_ (Em _ _) h1,?_,F_ (Em _ _) (mv h.few (λx I=>I))⟩;have h2:=sC (kD (hN l));have h3:=q2 (hN l);rw[hW]at h3
 have:=h.len
 omega
theorem mG.xj{l:List Rw}(hl:l.length<=50000000)(h:HG Sm (hN l)):mG l:=by
 have hs:∀x∈iP (hN l)++nu (hN l),Sm x:=λx I=>by
  rcases T_.1 I with I|I
  .exact h.refs x I
  .obtain⟨o,ho,rfl⟩:=D2.1 I;exact h.ids o ho
 exact⟨hl,vS.xj hs,λx I=>by obtain⟨h0,h1⟩:=hs x I;exact uj o_ o_⟩
theorem mG.B2{l:List Rw}(h:DF (hN l)):mG l:=by
 refine .xj (by have:=h.size;rw[hW]at this;omega) λo ho=>⟨?_,λv hv=>?_⟩
 .have:=h.ids o ho
  exact⟨by omega,by omega⟩
 .obtain⟨_,h1,h2⟩:=(h.fields o ho).2 v hv;intro hr;exact⟨h2 hr,by omega⟩
theorem mG.CJ{m:Md}(h:Co m):mG m.s.h.l:=by
 obtain⟨k,run,hk,hc,_⟩:=h.cm;have hb:=(hc.cb h.val).1.h;have e:m.s.p.h=hN m.s.h.l:=rfl;rw[e,hW]at hb;refine .xj o_ ?_;rw[<-e];exact hc.gX CF h.val o_
end Go.Proofs.YtenbhdilndfaeaaGreat
