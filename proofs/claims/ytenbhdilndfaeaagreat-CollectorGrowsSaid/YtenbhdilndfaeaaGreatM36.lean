import Derived.Test.YtenbhdilndfaeaaGreatM30
import Derived.Test.YtenbhdilndfaeaaGreatM31
import Derived.Test.YtenbhdilndfaeaaGreatM34
import Derived.Test.YtenbhdilndfaeaaGreatM35
import Derived.Laws.CopyRow
import Derived.Laws.EntriesVeiled
import Derived.Lib.SliceRun
import Derived.Sort.OwnSortedInts
set_option maxRecDepth 100000
set_option maxHeartbeats 0
set_option linter.all false
namespace Go.Proofs.YtenbhdilndfaeaaGreat
open Go.RowKit Go.Proofs.Tryz
variable{base g j s:Nat}{ops:Array Oper}{a:Ob->Bool}{Q:Exit->Act->World->Prop}{x:Operand}{aS:TypeId}{α:Type}{rb:Bool}{view:List Ob}{d:List Int}
theorem HV{G:Prop} (h:G:=by
 refine h5 H (b4.f_ 0) λC=>?_
 clear H K
 refine h4 5 λK H=>?_
 have aQ:=m.f_ 0;have br:=m.hH 0;go_simp;have M:Gr [x] Y (Y.setCell (c_ x 0) (.slice aG b.length aC)):=(F_ [x] Y).setCell (p:=c_ x 0) (.inl s_) _
 refine h5 H ((b4.gr M (by rw[I_];exact aE)).f_ 0) λC=>?_
 clear H K;refine hN k_ ?_ _;go_wp2;go_meet;exact⟨x,aG,aC,rfl,by simpa using m.hW 0 (.slice aG b.length aC),Sl.iu k m d_ M,bT.hK M (λy hy=>.inr (by rw[I_]at hy;omega))⟩):G:=h
section
open Go.RowKit Go.Sort Go.Shelf Go.Lib
theorem vT(d:Array Int)(hs:∀i j,i<=j->j<d.size->d[i]! <=d[j]!):∀m,m<=d.size->Asc (compactUpTo d m) (λx=>∃j,j<m/\d[j]! =x)
 |0,_=>⟨by simp[compactUpTo],λx=>by simp[compactUpTo]⟩
 |m+1,hm=>by
  have Z:=vT d hs m o_;rw[compactUpTo_succ]
  cases hk:keeps d m with
  |false=>
   have h0:m≠0/\d[m]! =d[m-1]! :=by
    unfold keeps at hk
    have:=Hb hk
    exact⟨λe=>this (.inl e),Classical.byContradiction λe=>this (.inr e)⟩
   refine⟨by simpa using Z.lt,λx=>?_⟩;simp only[Bool.false_eq_true,if_false,GE,Z.mem];constructor
   .rintro⟨j,hj,e⟩;exact⟨j,o_,e⟩
   .rintro⟨j,hj,e⟩
    by_cases h:j=m
    .subst h;exact⟨j-1,o_,by rw[<-h0.2];exact e⟩
    .exact⟨j,o_,e⟩
  |true=>
   have h0:m=0∨d[m]! ≠d[m-1]! :=GR hk;refine⟨?_,λx=>?_⟩
   .rw[T_ rfl,Gy];refine⟨Z.lt,s_,λx hx y hy=>?_⟩;rw[I_.1 hy];obtain⟨j,hj,rfl⟩:=(Z.mem x).1 hx;have h1:=hs j (m-1) o_ o_;have h2:=hs (m-1) m o_ o_;have h3:=h0.resolve_left o_;omega
   .rw[T_ rfl,X_,Z.mem,I_];constructor
    .rintro(⟨j,hj,e⟩|e)
     .exact⟨j,o_,e⟩
     .exact⟨m,o_,e.symm⟩
    .rintro⟨j,hj,e⟩
     by_cases h:j=m
     .subst h;exact .inr e.symm
     .exact .inl ⟨j,o_,e⟩
theorem y2(l:List Int):compact (l.mergeSort λx y=>decide (x<=y))=oX l:=by
 have hp:=List.mergeSort_perm l (λx y=>decide (x<=y));have hs:=List.pairwise_mergeSort (le:=λx y:Int=>decide (x<=y)) (λa b c h1 h2=>by simp at*;omega) (λa b=>by simp;omega) l;generalize l.mergeSort (λx y=>decide (x<=y))=s at*
 have h:=vT s.toArray (λi j H hj=>by
  have hj:j<s.length:=zu hj
  rcases EJ i j with h|h
  .have:=List.pairwise_iff_getElem.1 hs i j o_ hj h
   have aJ:s.toArray[i]! =s[i]:=by simp[show i<s.length by omega]
   have aG:s.toArray[j]! =s[j]:=by simp[hj]
   rw[aJ,aG];exact LO
  .have:i=j:=o_
   subst this
   exact E9 _) s.length s_
 unfold compact;refine Asc.eq h ?_;refine⟨(mK l).lt,λx=>?_⟩;rw[(mK l).mem,<-hp.mem_iff,List.mem_iff_getElem];constructor
 .rintro⟨j,hj,e⟩;exact⟨j,hj,by simp[hj,e]⟩
 .rintro⟨j,hj,e⟩;exact⟨j,hj,by simpa[hj]using e⟩
theorem Di(w:World):grow w #[]=w:=by unfold grow;simp
theorem rL{l:List Int}{w:World}(h:GA base w g l)(hn:l.length<=1000000000)(hb:base<=w.heap.size):
 Calls prog 70 #[q_ g] w λe w'=>∃(A:OA) (c:Nat),e=.returned (.slice A (oX l).length c)/\Ls w' A (oX l)/\(oX l).length<=c/\Fx base [119,2] w w':=by
 obtain⟨hbg,B,aw,hB,hz⟩:=h
 refine ia λQ ak=>?_
 have U:=hB.f_ 0
 rcases hz.2 with⟨h1,h0⟩|⟨p,lW,cur,hv,r,hp,hcl,bB,az,aO⟩
 .have hl:l=[]:=EP h0;subst hl;injection h1 with h1 _ h2;subst h1;subst h2;have Z:=h_ (AnyM.slices_Sort_int_none sortG none 0 w);have d:=h_ (AnyG.slices_Compact_int_empty compA none 0 w);clear hz hB
  go_enter func70,ntmps70
  go_wp2_with (first
   |(go_at_call 107;refine Z.out.mono ?_;rintro e w1⟨rfl,rfl⟩)
   |(go_at_call 108;refine d.out.mono ?_;rintro e w1⟨rfl,rfl⟩))
  rw[ak.out];exact⟨none,0,rfl,Fm _ _ _ _,H_ _,.jC (F_ _ _)⟩
 .injection hv with hv hv1 aV;subst hv;subst aV;have bC:l.length<=9223372036854775807:=o_;have m:Holds (Value.int .i64) w p 0 l.toArray:=holds_of_blockI hp (zu aO);have bV:=k6 hp;have Z:=h_ (AnyM.slices_Sort_int sortG p 0 aw l w m bV o_)
  have br:g≠p:=by
   rintro rfl;unfold Bk at hB;rw[hB]at hp
   cases hp
  have bG:=h_ (show ∀(n:Nat) (os:Array Obj),Gr [p] w (grow (putRow (Value.int .i64) (Sort.ahead w n) p 0 (l.mergeSort λx y=>decide (x<=y)).toArray) os)/\
   (grow (putRow (Value.int .i64) (Sort.ahead w n) p 0 (l.mergeSort λx y=>decide (x<=y)).toArray) os).ownsRow base 2 1 (.slice (j_ p) l.length aw) l.length ((l.mergeSort λx y=>decide (x<=y)).map (Value.int .i64)) from λn os=>
   ⟨(F_ [p] w).grown (grownBy_sortedI _) (λk hk=>by injection hk with hk;exact .inl (by simp[hk])),ownsRow_sortedI (by rw[List.length_mergeSort]) r hp hcl bB az⟩)
  have a7:(l.mergeSort λx y=>decide (x<=y)).length=l.length:=List.length_mergeSort l;have aX:=h_ (y2 l);have t:=h_ (show ∀w',Gr [p] w w'->Fx base [119,2] w w' from λw' hg=>Fx.one hg hp r s_);clear aO az hp m hz;generalize (l.mergeSort λx y=>decide (x<=y))=ss at*
  go_enter func70,ntmps70
  go_wp2_with fail
  go_at_call 107
  refine Z.out.mono ?_;rintro e w1⟨rfl,n,os,cJ⟩;obtain⟨hg1,cX⟩:=bG.out n os;rw[<-cJ]at hg1 cX;clear cJ;have E:=hB.gr hg1 (zu br);have ad:=E.f_ 0;obtain⟨o,v,bM,a,s,f,H,z,D,F⟩:=cX.2.resolve_left (λq=>by cases q.1);injection a with a _ G;injection a with a;injection a with a;subst a;subst G;have m:Holds (Value.int .i64) w1 p 0 ss.toArray:=holds_of_blockI f (by rw[a7];simpa using F);have d:=AnyG.slices_Compact_int compA p 0 aw ss w1 m o_ o_;rw[a7]at d;have d:=h_ d
  go_wp2_with fail
  go_at_call 108
  refine d.out.mono ?_;rintro e w2⟨rfl,q,W⟩
  have cS:(compact ss).length<=l.length:=by
   rw[<-a7]
   have:=(Fl (keeps ss.toArray) (List.range ss.length))
   unfold compact compactUpTo;simp at this |-;exact this
  have aG:w2=grow (putRow (Value.int .i64) (Sort.ahead w1 q) p 0 (compact ss++List.replicate (l.length-(compact ss).length) 0).toArray) #[]:=by rw[Di,W]
  have J:Gr [p] w1 w2:=by
   rw[aG];exact(F_ [p] w1).grown (grownBy_sortedI _) (λk hk=>by injection hk with hk;exact .inl (by simp[hk]))
  have i:=ownsRow_sortedI (w:=w1) (n:=q) (os:=#[]) (base:=base) (ss:=ss) (ts:=compact ss++List.replicate (l.length-(compact ss).length) 0) p_ s f o_ z D;rw[<-aG]at i;clear W aG;go_wp2;rw[ak.out,<-aX.out];refine⟨j_ p,aw,rfl,?_,o_,(t.out w1 hg1).trans (Fx.one J f s s_)⟩;have C:=Sl.iT i;refine⟨s_,λh0=>?_⟩;obtain⟨b,off,cs,fz,hA,hb,hc⟩:=C.2 o_;refine⟨b,off,cs,fz,hA,hb,λj u hu=>hc j u ?_⟩
  rw[EL,Fv (by
   rcases EJ j ((compact ss).map (Value.int .i64)).length with h|h
   .exact h
   .rw[EW h]at hu
    cases hu)]
  exact hu
end
section
variable{w w' a:World}{e:TypeId}{A:OA}
theorem Dq{l:List Cl}(h:Sl w e 4 A l.length (l.flatMap Cl.E)){k:Nat}(hk:k<l.length):∃b off,A=some (c_ b off)/\w.cell? (c_ b (off+k*4))=some (i_ l[k].id)/\w.cell? (c_ b (off+k*4+1))=some (i_ l[k].f)/\w.cell? (c_ b (off+k*4+2))=some (.bool l[k].v.r)/\w.cell? (c_ b (off+k*4+3))=some (i_ l[k].v.n):=Kb
theorem Dp{l:List Dl}(h:Sl w e 5 A l.length (l.flatMap Dl.E)){k:Nat}(hk:k<l.length):∃b off,A=some (c_ b off)/\w.cell? (c_ b (off+k*5))=some (i_ l[k].id)/\w.cell? (c_ b (off+k*5+1))=some (i_ l[k].f)/\w.cell? (c_ b (off+k*5+2))=some (i_ l[k].op)/\w.cell? (c_ b (off+k*5+3))=some (.bool l[k].v.r)/\w.cell? (c_ b (off+k*5+4))=some (i_ l[k].v.n):=JX
theorem C3{l:List Tk}(h:Sl w e 48 A l.length (l.flatMap λt=>t.g_.toList)){k:Nat}(hk:k<l.length):∃b off,A=some (c_ b off)/\∀j,j<48->w.cell? (c_ b (off+k*48+j))=(l[k]).g_[j]?:=by
 obtain⟨b,off,hA,hc⟩:=Sl.row (E:=λt:Tk=>t.g_.toList) (λ_=>rfl) h hk;refine⟨b,off,hA,λj hj=>?_⟩
 have hs:j<(l[k]).g_.size:=by rw[Tk.size];exact hj
 rw[EH hs,Gd];exact hc j _ (by simp[hs])
end
structure za(w:World)(t:Tk):Prop where
 gs:∃e,Sl w e 4 t.gs.A t.gs.l.length (t.gs.l.flatMap Cl.E)
 rs:∃e,Sl w e 4 t.rs.A t.rs.l.length (t.rs.l.flatMap Cl.E)
 ws:∃e,Sl w e 4 t.ws.A t.ws.l.length (t.ws.l.flatMap Cl.E)
 ds:∃e,Sl w e 5 t.ds.A t.ds.l.length (t.ds.l.flatMap Dl.E)
 nw:∃e,u3 e w t.nw.A t.nw.l
 nr:∃E,tB E w t.nw.l
theorem lb.e{w:World}{t:Tk}(h:lb w t):za w t:=⟨⟨_,h.gs⟩,⟨_,h.rs⟩,⟨_,h.ws⟩,⟨_,h.ds⟩,⟨_,h.nw.e⟩,⟨_,h.nr.e⟩⟩
theorem Ew{rest:List Oper}{o:Oper}{a:Act}{w:World}{b off:Nat}{t:Tk}(hc:∀j,j<48->w.cell? (c_ b (off+j))=t.g_[j]?)(h:wpList prog ops Q rest (a.put o.dst (.agg t.g_)) w)(V:o.guard=none:=by rfl)(ho:o.op=.load 53 x:=by rfl)(hx:a.eval x=.pointer (some (c_ b off)):=by rfl):wpList prog ops Q (o::rest) a w:=
 wpList_plain V λ_ H=>wp_load_mid 53 x ho b off hx t.g_.toList _ (λj v hj=>by
  have ag:j<48:=by
   rcases EJ j 48 with h|h
   .exact h
   .rw[EW (by show 48<=j;exact h)]at hj
    cases hj
  rw[hc j ag]
  simpa using hj) underlying53 rfl k_ (H _ _ h)
theorem xh{e:TypeId}{c:Nat}{l R L:List Int}{cs:List Cl}{A:OA}{a w:World}(h:GA base w g l)(ha:a.heap.size<=base)(aC:Gr [] a w)(hc:Sl a e 4 A cs.length (cs.flatMap Cl.E))(hb:base<=w.heap.size)(hL:l++(k9 cs++R)=L)(hn:L.length<=1000000000)(hcl:cs.length<=1000000000):
 Calls prog 68 #[q_ g,.slice A cs.length c] w λe w'=>e=.returned (.tuple #[])/\(∃l',GA base w' g l'/\l'++R=L)/\Fx base [119,2] w w':=by
 refine ia λQ ak=>?_
 go_enter func68,ntmps68
 go_wp2;have be:=h_ hL;clear hL
 go_loopw [8] (λap wr=>∃(k:Nat) (xs:List Int),k<=cs.length/\ap=i_ k/\GA base wr g xs/\Hid (xs++(k9 (cs.drop k)++R)=L)/\Fx base [119,2] w wr) (λap _=>cs.length-(intOf ap).toNat)
 case atStart=>exact⟨0,l,O_ _,gn,h,h_ be.out,.jC (F_ _ _)⟩
 case round=>
  clear h;obtain⟨k,xs,hk,rfl,hA,bl,aj⟩:=hrel
  by_cases ag:k<cs.length
  .obtain⟨b,off,P,bi,bq,bK,bT⟩:=Dq hc ag;subst P;have F:=aj.gr a ha aC;have U:=F.f_ bi s_;have ad:=F.f_ bq s_;have ar:=F.f_ bK s_;have aL:=F.f_ bT s_
   have d:=h_ (show((xs++[cs[k].id])++p7 cs[k].v)++(k9 (cs.drop (k+1))++R)=L by
    have e:=bl.out;rw[R_ ag]at e;rw[<-e]
    simp only[k9,E0,Fc,F8,EO])
   have iM:=ED List.length d.out;simp only[J_,Z_,EY]at iM;generalize cs[k]=x at*;clear bi bq bK bT;have t:=P_ wr 116 #[i_ x.id,i_ x.f,.bool x.v.r,i_ x.v.n];have hg1:=(F_ [] wr).alloc (.cells #[i_ x.id,i_ x.f,.bool x.v.r,i_ x.v.n] 116);obtain⟨W,gb,aT,aU⟩:∃W gb,wr.alloc (.cells #[i_ x.id,i_ x.f,.bool x.v.r,i_ x.v.n] 116)=W/\wr.heap.size=gb:=⟨_,_,rfl,rfl⟩;rw[aT]at t hg1;rw[aU]at t;have z0:=t.f_ 0;have B:=hA.hG hg1
   have D:base<=W.heap.size:=by have:=aj.size;have:=hg1.size;omega
   have J:=(F_ [] W).alloc (.cells #[i_ x.id] 2);have aK:=h_ (pr (c:=1) (B.hG J) (Ls.one W x.id) p_ (by simp only[Z_,EY];omega));have j:=t.hG J;have f:=(aj.trans (.jC hg1)).trans (.jC J);clear hA B t aj F
   go_wp2_with fail
   go_at_call 67
   refine aK.out.mono ?_;rintro e w2⟨rfl,af,u⟩;have m:=u.bk j;have aV:=m.f_ 2;have z3:=m.f_ 3;have i:=f.trans u;have C:=h_ (tg (v:=x.v) af (ov i.size) p_);clear af j f aK
   go_wp2_with fail
   go_at_call 69
   refine C.out.mono ?_;rintro e ae⟨rfl,bJ,E⟩;go_wp2;go_roundw
   case rel=>exact⟨k+1,_,o_,gn,bJ,d,i.trans E⟩
   case measure=>exact mz
  .go_wp2;refine en_ ?_;rw[ak.out];have e:=bl.out;rw[FO o_]at e;exact⟨rfl,⟨xs,hA,by simpa[k9]using e⟩,aj⟩
section
open Go.RowKit Go.Maps
def FM(w:World)(M n:Nat)(f:Int->Bool):Prop:=
 ∃D:DataW Unit,w.ownsMap prog 2 (plainElem prog 4) M n D/\IsMap D/\(∀id:Int,(Lit.int .i64 id).wf=true->D.atKey (Lit.int .i64 id) (.lit (.bool false))=.lit (.bool (f id)))/\qP D (λx=>f x=true)
section
variable{w w':World}{M n:Nat}{f:Int->Bool}
theorem FM.bm(h:FM w M n f):Bm w M n f:=by
 obtain⟨D,h1,h2,h3,_⟩:=h;exact⟨D,h1,h2,h3⟩
theorem FM.iy(h:FM w M n f)(hb:w'.heap[M]?=w.heap[M]?):FM w' M n f:=KO
theorem FM.hG(h:FM w M n f)(hg:Gr [] w w'):FM w' M n f:=h.iy (hg.block M h.bm.lt s_)
theorem FM.not(h:FM w M n f)(cs:Array Value)(t:TypeId)(fz:Nat × Nat):w.heap[M]?≠some (.cells cs t fz):=by
 obtain⟨D,⟨es,i,h1,_⟩,_⟩:=h;rw[h1];intro q
 cases q
theorem FM.made(w:World):FM (w.alloc (.map #[] 0)) w.heap.size 0 (λ_=>false):=
 ⟨.map [],World.ownsMap_made w _ _ _,⟨[],rfl⟩,λid _=>rfl,qP.empty.congr λx=>s_⟩
theorem FM.update(h:FM w M n f)(hn:n<maxLen){id:Int}(aM:(Lit.int .i64 id).wf=true):
 ∃w',(Instr.mapUpdate 105 (.map (some M)) (i_ id) (.bool true)).run prog w=.ok () w'/\FM w' M (n+1) (λi=>if i=id then true else f i)/\w.grownBy w' (some M):=by
 obtain⟨D,h1,h2,h3,aU⟩:=h;obtain⟨w',N,au,aq⟩:=h1.update (int_keyed underlying2) underlying105 hn (keyOf_int_mk underlying2 aM) (plainElem_bool underlying4 true);refine⟨w',N,⟨_,au,h2.put _ _,λi hi=>?_,(aU.put id _).congr λx=>?_⟩,aq⟩
 .by_cases he:i=id
  .subst he
   show _=DataW.lit (.bool (if i=i then true else f i))
   rw[T_ rfl];exact atKey_put_same (k:=Lit.int .i64 i) h2 trivial _ _
  .show _=DataW.lit (.bool (if i=id then true else f i))
   exact KG
 .by_cases he:x=id<;>simp[he]
theorem FM.bk(h:FM w M n f)(hg:Gr [M] w w'){t:TypeId}{cs:Array Value}(hk:Bk w g t cs):Bk w' g t cs:=
 hk.gr hg (λq=>by rw[I_]at q;subst q;exact h.not _ _ _ hk)
theorem FM.sl(h:FM w M n f)(hg:Gr [M] w w'){e:TypeId}{m:Nat}{A:OA}{xs:List Value}(hs:Sl w e s A m xs):Sl w' e s A m xs:=
 ⟨hs.1,λhn=>by
   obtain⟨b,off,cs,fz,hA,hb,hc⟩:=hs.2 hn
   exact⟨b,off,cs,fz,hA,(hg.block b (k6 hb) (λq=>by rw[I_]at q;subst q;exact h.not _ _ _ hb)).trans hb,hc⟩⟩
end
theorem wZ{fs:List Vl}(hj:j<fs.length):rA (fs.take (j+1))=rA (fs.take j)++(if fs[j].r=true then[fs[j].n] else[]):=by
 rw[W_ hj];unfold rA;rw[GM,EL];split<;>simp_all
structure VM(bh bf bv M:Nat)(hA:OA)(hc:Nat)(l:List Rw)(w:World):Prop where
 b1:Bk w bh 35 #[.slice hA l.length hc]
 b2:Bk w bf 105 #[.map (some M)]
 b3:Bk w bv 129 #[.func (.func 74) #[] #[q_ bh,q_ bf,q_ bv]]
 os:∃e,u3 e w hA l
 kZ:∃E,tB E w l
section
variable{bh bf bv M hc nn:Nat}{hA:OA}{l:List Rw}{f:Int->Bool}{w w':World}
theorem VM.hG(v:VM bh bf bv M hA hc l w)(hg:Gr [] w w'):VM bh bf bv M hA hc l w':=
 ⟨v.b1.hG hg,v.b2.hG hg,v.b3.hG hg,let⟨e,h⟩:=v.os;⟨e,h.hG hg⟩,let⟨e,h⟩:=v.kZ;⟨e,h.hG hg⟩⟩
theorem VM.gr(v:VM bh bf bv M hA hc l w)(h:FM w M nn f)(hg:Gr [M] w w'):VM bh bf bv M hA hc l w':=
 ⟨h.bk hg v.b1,h.bk hg v.b2,h.bk hg v.b3,let⟨e,k⟩:=v.os;⟨e,h.sl hg k⟩,let⟨e,k⟩:=v.kZ;⟨e,λr hr=>⟨h.sl hg (k r hr).1,(k r hr).2⟩⟩⟩
def A0(M:Nat)(h:List Ob)(id:Int)(f:Int->Bool)(K:Nat)(w:World)(e:Ending)(w':World):Prop:=
 ∃(nn:Nat) (s:Int->Bool),e=.returned (.tuple #[])/\FM w' M nn s/\qT h [id] (f · =true) (s · =true)/\nn+tK h (s · =true)<=K/\Gr [M] w w'
theorem visit_any(hn:l.length<=1000000000)(h0:(0:Int)∉iG (hY l))(aM:∀x∈iG (hY l),mJ x){K:Nat}(H:K<=1000000000):∀(n:Nat) (f:Int->Bool) (nn:Nat) (id:Int) (w:World),tK (hY l) (f · =true)<n->VM bh bf bv M hA hc l w->FM w M nn f->nn+tK (hY l) (f · =true)<=K->
 Calls prog 74 #[i_ id,q_ bh,q_ bf,q_ bv] w (A0 M (hY l) id f K w)
 |0,_,_,_,_,ag,_,_,_=>EK ag (Nat.not_lt_zero _)
 |n+1,f,nn,id,w,ag,hv,hf,J=>by
  refine ia λQ ak=>?_
  have ai:=h_ (visit_any hn h0 aM H n);have U:=hv.b1.f_ 0;obtain⟨_,aB⟩:=hv.os;obtain⟨_,b5⟩:=hv.kZ;have aK:=h_ (yS hA hc l id w aB b5 hn)
  have ah:=h_ (show ∀o,kn (hY l) id=some o->o.fs.length<=1000000000 from λo ho=>by
   obtain⟨r,hr,rfl⟩:=EM.1 (qG ho)
   exact(b5 r hr).2)
  clear aB b5;have ay:=h_ hv;have af:=h_ hf;have B:=h_ J;have G:=h_ ag;clear hv hf J ag
  go_enter func74,ntmps74
  go_wp2_with fail
  go_at_call 60
  refine aK.out.mono ?_;rintro e w1(⟨hg,rfl,hg1⟩|⟨o,A1,c1,hg,rfl,hv1,hg1⟩)
  .have HG:=h_ (show id∉iG (hY l) from λq=>by obtain⟨o,e⟩:=si.1 q;rw[hg]at e;cases e);clear hg;go_wp2;refine rn_ ?_;rw[ak.out];have aE:=hg1.alloc (.cells #[i_ 0,n_] 56);exact⟨nn,f,rfl,af.out.hG aE,qT.skip λhi=>EK hi HG.out,B.out,(F_ [M] w).hK aE s_⟩
  .have hid:id∈iG (hY l):=si.2 ⟨o,hg⟩;have A:=aM id hid;have R:=ah.out o hg;have HG:=h_ hg;have bV:=h_ hid;clear hg hid aK;obtain⟨W,g,aT,bA,z,hB⟩:=box1 w1 56 #[i_ o.id,.slice A1 o.fs.length c1];have ar:=af.out.hG (hg1.trans z);have bB:=ay.out.hG (hg1.trans z);have bQ:=ar.bm.lookup A;have z0:=bB.b2.f_ 0
   cases de:f id with
   |true=>
    rw[de]at bQ;have V:=h_ de;clear de hB;go_wp2;refine rn_ ?_;rw[ak.out];exact⟨nn,f,rfl,ar,qT.skip λ_=>V.out,B.out,(F_ [M] w).hK (hg1.trans z) s_⟩
   |false=>
    rw[de]at bQ
    have C:∀x,(if x=id then true else f x)=true↔(f x=true∨x=id):=λx=>by by_cases e:x=id<;>simp[e]
    have bG:=h_ C;have hl1:tK (hY l) (λx=>f x=true∨x=id)<tK (hY l) (f · =true):=Co bV.out (by rw[de];decide);have T:=h_ hl1;obtain⟨w2,N,u,S⟩:=ar.update (by have:=B.out;unfold maxLen;omega) A;have S:Gr [M] W w2:=(F_ [M] W).grown S (λk hk=>by injection hk with hk;exact .inl (by simp[hk]));have i:=bB.gr ar S;have bN:Vs w2 A1 o.fs:=ar.sl S (hv1.hG z);have bu:=ar.bk S hB;have ad:w2.cell? (c_ g 1)=some (.slice A1 o.fs.length c1):=bu.f_ 1;have cy:Gr [M] w w2:=((F_ [M] w).hK (hg1.trans z) s_).trans S;have p:=h_ (show nn+1+tK (hY l) (λx=>f x=true∨x=id)<=K by have:=B.out;omega)
    have m:=h_ (show ∀s:Int->Bool,(∀x,(f x=true∨x=id)->s x=true)->tK (hY l) (s · =true)<n from λs D=>by
     have:=Cp (h:=hY l) D
     have:=G.out
     omega)
    clear hl1 de C hB bu bB ar G
    go_wp2_with fail
    go_loopw [27] (λap wr=>∃(j a:Nat) (s:Int->Bool),j<=o.fs.length/\ap=i_ j/\FM wr M a s/\Hid (a+tK (hY l) (s · =true)<=K)/\Hid (qT (hY l) (rA (o.fs.take j)) (λx=>f x=true∨x=id) (s · =true))/\VM bh bf bv M hA hc l wr/\Vs wr A1 o.fs/\Gr [M] w wr) (λap _=>o.fs.length-(intOf ap).toNat)
    case atStart=>exact⟨0,nn+1,_,O_ _,by go_num,u,h_ (by have:=p.out;have e:tK (hY l) (λx=>(if x=id then true else f x)=true)=tK (hY l) (λx=>f x=true∨x=id):=ED _ (funext λx=>propext (bG.out x));omega),h_ ((qT.nil _ _).congr (λ_=>Iff.rfl) λx=>(bG.out x).symm),i,bN,cy⟩
    case round=>
     clear u i bN cy ad N bQ z0;obtain⟨j,a,s,hj,rfl,aj,aW,bl,aZ,bN,I⟩:=hrel
     by_cases bp:j<o.fs.length
     .obtain⟨b,off,P,b6,bE⟩:=bN.at_ bp;subst P;have bL:=h_ (wZ bp);generalize o.fs[j]=v at*;have z3:=aZ.b3.f_ 0;obtain⟨am,y,cf,ao,c,bu⟩:=box1 wr 38 #[.bool v.r,i_ v.n];obtain⟨bj,bn⟩:=bu.iH;have E:=aj.hG c;have aC:=aZ.hG c;have O:=bN.hG c;have t:=I.trans ((F_ [M] wr).hK c s_);have z4:=aC.b3.f_ 0
      cases aw:v.r with
      |false=>
       rw[aw]at bj b6 cf;have d:=h_ (show qT (hY l) (rA (o.fs.take (j+1))) (λx=>f x=true∨x=id) (s · =true) by rw[bL.out,aw];simpa using bl.out);clear aj aZ bN I bu;go_wp2;go_roundw
       case rel=>exact⟨j+1,a,s,by omega,by go_num,E,aW,d,aC,O,t⟩
       case measure=>simp[intOf];omega
      |true=>
       rw[aw]at bj b6 cf;have aK:=h_ (ai.out s a v.n am (m.out s bl.out.up) aC E aW.out)
       have d:=h_ (show ∀S',qT (hY l) [v.n] (s · =true) S'->qT (hY l) (rA (o.fs.take (j+1))) (λx=>f x=true∨x=id) S' from λS' q=>by
        rw[bL.out,aw,T_ rfl]
        exact bl.out.app q)
       clear aj aZ bN I bu
       go_wp2_with fail
       go_at_call 74
       refine aK.out.mono ?_;unfold A0;rintro e Y⟨aI,f5,rfl,F,a7,L,bT⟩;have aN:=aC.gr E bT;have X:Vs Y (some (c_ b off)) o.fs:=E.sl bT O;have ae:=h_ (d.out _ a7);have Z:=h_ L;clear a7 L;go_wp2;go_roundw
       case rel=>exact⟨j+1,aI,f5,by omega,by go_num,F,Z,ae,aN,X,t.trans bT⟩
       case measure=>simp[intOf];omega
     .go_wp2;refine rn_ ?_;rw[ak.out];have hx:=bl.out;rw[EI o_]at hx;exact⟨a,s,rfl,aj,qT.node HG.out h0 hx,aW.out,I⟩
end
end
section
open Go.RowKit Go.Maps
theorem yG{T:List TypeId}{w w':World}{R:Value->Option (DataW Unit × List MemPlace)}{b r n:Nat}{D:DataW Unit}{lf:Lit->Bool}{o:Nat}(h:w.ranges prog 2 R b r n D lf o)(aj:Fx base T w w'):w'.ranges prog 2 R b r n D lf o:=by
 obtain⟨es,i,a6,aX,aw,hb,F,hs,hD,hr,rest⟩:=h;exact⟨es,i,a6,aX,aw,aj.iy b _ hb (λcs t fz e=>by cases e),F,hs,hD,aj.iy r _ hr (λcs t fz e=>by cases e),rest⟩
theorem zQ(y x:Int):(Lit.int .i64 y).sameKey (Lit.int .i64 x)=decide (y=x):=by
 by_cases h:y=x
 .subst h;rw[E8 rfl];exact WideAt.sameKey_self (by simp[WideAt.IsKeyLit])
 .rw[FH h]
  cases e:(Lit.int .i64 y).sameKey (Lit.int .i64 x)with
  |false=>rfl
  |true=>have:=WideAt.sameKey_eq e;injection this with _ this;exact EK this h
theorem GA.grn{r:Nat}{w w':World}{l:List Int}(h:GA base w g l)(hn:∀cs t fz,w.heap[r]?≠some (.cells cs t fz))(hg:Gr [r] w w'):GA base w' g l:=by
 obtain⟨h1,A,c,h2,h3⟩:=h;exact⟨h1,A,c,h2.gr hg (λq=>by rw[I_]at q;subst q;exact hn _ _ _ h2),ko h3 (λcs fz=>hn cs 2 fz) hg⟩
theorem w5{E:Rw->TypeId}{bj:TypeId}(hA:OA)(hc:Nat)(l:List Rw)(RA:OA)(S:Nat)(rs:List Int)(w:World)(aq:u3 aS w hA l)(hR:tB E w l)(hn:l.length<=50000000)(h0:(0:Int)∉iG (hY l))(aM:∀x∈iG (hY l),mJ x)(ay:Sl w bj 1 RA rs.length (zs rs))(ct:rs.length<=1000000000):
 Calls prog 35 #[.agg #[.slice hA l.length hc],.slice RA rs.length S] w (nX (n8 (hY l) rs) w):=by
 refine ia λQ ak=>?_
 have aG:= @run_makeMap prog;obtain⟨W,g,aT,hg,I,hB⟩:=box1 w 35 #[.slice hA l.length hc];have aR:FM (W.alloc (.map #[] 0)) W.heap.size 0 (λ_=>false):=FM.made W;obtain⟨R,bW⟩:=mn_ (W.alloc (.map #[] 0));obtain⟨M,z⟩:=mn_ W.heap.size
 have j:Gr [] W R:=by rw[<-bW];exact(F_ [] W).alloc _
 have bJ:w.heap.size<=M:=ov I.size;rw[bW,z]at aR;obtain⟨aH,bf,bv,bC,bp,ah,a,bz,bu⟩:=v7 R 105 #[.map (some M)] 129 #[.nilFunc];have aQ:=bu.f_ 0;have br:=bu.hH 0;have cy:Gr [bv] aH (aH.setCell (c_ bv 0) (.func (.func 74) #[] #[q_ g,q_ bf,q_ bv])):=(F_ [bv] aH).setCell (p:=c_ bv 0) (.inl s_) _
 go_enter func35,ntmps35
 go_upto_region 4 with fail
 have T:=aR.hG a;have af:FM (aH.setCell (c_ bv 0) (.func (.func 74) #[] #[q_ g,q_ bf,q_ bv])) M 0 (λ_=>false):=T.iy (cy.block M T.bm.lt (λq=>by rw[I_]at q;subst q;exact T.not _ _ _ bu));have bK:=bu.hW 0 (.func (.func 74) #[] #[q_ g,q_ bf,q_ bv]);have aJ:=(I.trans j).trans a
 have bI:w.heap.size<=bv:=by have:=I.size;have:=j.size;omega
 have A:=aJ.hK cy (λy hy=>.inr (by rw[I_]at hy;omega))
 have ao:g≠bv:=by have:=hB.lt;have:=j.size;omega
 have N:bf≠bv:=o_;have aZ:VM g bf bv M hA hc l (aH.setCell (c_ bv 0) (.func (.func 74) #[] #[q_ g,q_ bf,q_ bv])):=⟨((hB.hG j).hG a).gr cy (zu ao),bz.gr cy (zu N),by simpa using bK,⟨_,aq.hG A⟩,⟨_,hR.hG A⟩⟩;clear hB bz bu bK I j a cy aJ aR T aQ br aG ao N;obtain⟨am,cf⟩:=nm_ (aH.setCell (c_ bv 0) (.func (.func 74) #[] #[q_ g,q_ bf,q_ bv]));rw[<-cf]at af A aZ |-;clear cf bC bW aT hg bp ah z;have h:=h_ (show tK (hY l) (λx=>(λ_=>false) x=true)<=(hY l).length from Bd _ _);have bo:(hY l).length=l.length:=h9 l
 go_wp2_with fail
 go_loopw [15] (λap wr=>∃(k nn:Nat) (f:Int->Bool),k<=rs.length/\ap=i_ k/\FM wr M nn f/\Hid (nn+tK (hY l) (f · =true)<=(hY l).length)/\Hid (qT (hY l) (rs.take k) (λ_=>False) (f · =true))/\VM g bf bv M hA hc l wr/\Gr [] w wr) (λap _=>rs.length-(intOf ap).toNat)
 case atStart=>exact⟨0,0,_,O_ _,gn,af,h_ (ov h.out),h_ ((qT.nil _ _).congr (λ_=>Iff.rfl) λx=>s_),aZ,A⟩
 case round=>
  clear af h aZ A;obtain⟨k,nn,f,hk,rfl,aj,aW,bl,aZ,I⟩:=hrel;have z3:=aZ.b3.f_ 0
  by_cases ag:k<rs.length
  .obtain⟨b,off,u,P,hu,bH⟩:=Sl.at_ ay ag
   have dj:u=i_ rs[k]:=by
    have:(zs rs)[k]?=some (i_ rs[k]):=by simp[M_ ag]
    rw[this]at hu;injection hu with hu;exact hu.symm
   subst dj;subst P;have ad:=I.f_ bH s_;have bL:=h_ (W_ ag);generalize rs[k]=x at*;have aK:=h_ (visit_any (M:=M) (K:=(hY l).length) o_ h0 aM o_ (tK (hY l) (f · =true)+1) f nn x wr (Nat.lt_succ_self _) aZ aj aW.out);clear bH hu
   go_wp2_with fail
   go_at_call 74
   refine aK.out.mono ?_;unfold A0;rintro e Y⟨aI,f5,rfl,F,a7,L,bT⟩;have aN:=aZ.gr aj bT;have ae:=h_ (show qT (hY l) (rs.take (k+1)) (λ_=>False) (f5 · =true) by rw[bL.out];exact bl.out.app a7);have Z:=h_ L;have c3:Gr [] w Y:=I.hK bT (λy hy=>.inr (by rw[I_]at hy;omega));clear a7 L;go_wp2;go_roundw
   case rel=>exact⟨k+1,aI,f5,o_,gn,F,Z,ae,aN,c3⟩
   case measure=>exact mz
  .have hx:=bl.out;rw[EI o_]at hx;have bg:=h_ (show ∀x,f x=true↔u2 (hY l) (· ∈rs) x from λx=>hx.reach x);obtain⟨C,X,bE,dV,s,O⟩:=box1 wr 119 #[n_];have V:GA w.heap.size C X []:=⟨ov I.size,none,0,O,Zr.nil⟩;have aO:=aZ.hG s;have ar:=aO.b2.f_ 0;obtain⟨D,aF,_,_,G⟩:=aj.hG s
   have aL:Maps.size D<=l.length:=by
    have h1:=G.size (ys:=n8 (hY l) rs) ⟨(ki _ _).lt,λx=>((ki (hY l) rs).mem x).trans (bg.out x).symm⟩;rw[h1,<-h9 l]
    have:=qA (n8 (hY l) rs) (l:=iG (hY l)) (ki _ _).nodup λx hx=>(((ki (hY l) rs).mem x).1 hx).ids
    simpa[iG]using this
   have n:=I.trans s;clear aZ aj hx bl aW O aO z3
   go_wp2_with (first|(at_range;refine wpList_range_own _ rfl _ 105 rfl 2 4 (int_keyed underlying2) underlying105 (plainElem prog 4) M nn D rfl aF ?_;intro w0 av a2 H)|go_in)
   obtain⟨r,hr⟩:=nm_ C.heap.size
   have bB:w.heap.size<=r:=by have:=I.size;have:=s.size;omega
   rw[<-hr]at av |-;clear hr H ar;have ai:Gr [] C w0:=(F_ [] C).grown a2 (λk hk=>by cases hk);have V:=V.hG ai;have aE:=n.trans ai;have bM:=h_ (show ∀x,Maps.has D (Lit.int .i64 x)=true↔f x=true from G.has);have aC:=h_ aL;clear a2 ai aF G aL n s I
   go_frame
   go_loopw [10] (λap wr=>∃(lf:Lit->Bool) (o:Nat) (xs:List Int),wr.ranges prog 2 (plainElem prog 4) M r nn D lf o/\GA w.heap.size wr X xs/\Hid (∀x,x∈xs↔f x=true/\lf (Lit.int .i64 x)=false)/\Hid (∀x,lf (Lit.int .i64 x)=true->f x=true)/\xs.length+o<=Maps.size D/\Gr [] w wr) (λ_ wr=>wr.rangeLeft M r)
   case atStart=>exact⟨_,_,[],av,V,h_ (λx=>⟨λq=>(by cases q),λq=>by rw[(bM.out x).2 q.1]at q;cases q.2⟩),h_ (λx q=>(bM.out x).1 q),s_,aE⟩
   case round=>
    clear av V aE;obtain⟨lf,o,xs,U,hA,bl,bG,b8,I⟩:=hrel;have aB:=h_ U
    go_upto_region 12 with(at_next;refine wpList_next_ranges _ rfl _ rfl 2 (int_keyed underlying2) (plainElem prog 4) (Value.int .i64) Value.bool (λB m bq=>by obtain⟨x,rfl,_⟩:=Maps.keyOf_int_inv underlying2 bq;exact⟨x,rfl⟩) (λv y hv=>by obtain⟨c,rfl,_⟩:=nA underlying4 hv;exact⟨c,rfl⟩) M r nn D lf o rfl aB.out (λbi hl0=>?_) (λx c m y w1 a8 bV hl1 hv1 bn aP aV hg1 bS bR=>?_))
    .have be:=h_ hl0;clear hl0 U;have bA:=aC.out;have aK:=h_ (rL hA o_ I.size)
     go_wp2_with (go_at_call 70;refine aK.out.mono ?_;rintro e Y⟨aY,c5,rfl,bF,bt,F⟩)
     rw[ak.out]
     have he:oX xs=n8 (hY l) rs:=Asc.eq (mK xs) ⟨(ki _ _).lt,λx=>by
      rw[(ki (hY l) rs).mem,<-bg.out,bl.out,be.out]
      simp⟩
     rw[<-he];exact⟨aY,c5,rfl,bF,bt,F.gr w (H_ _) I⟩
    .obtain⟨x',ex,rfl,az⟩:=Maps.keyOf_int_inv underlying2 bV
     cases ex
     have au:Gr [r] wr w1:=(F_ [r] wr).grown hg1 (λk hk=>by injection hk with hk;exact .inl (by simp[hk]))
     have P:GA w.heap.size w1 X xs:=hA.grn (λcs t fz q=>by
      obtain⟨es,i,a6,aX,aw,_,_,_,_,hr,_⟩:=U;rw[hr]at q
      cases q) au
     have j:Gr [] w w1:=I.hK au (λy hy=>.inr (by rw[I_]at hy;omega));have J:=(F_ [] w1).alloc (.cells #[i_ x] 2);have a:=j.trans J;have bA:=aC.out;have aK:=h_ (pr (c:=1) (P.hG J) (Ls.one w1 x) a.size (by simp only[Z_,EY];omega));have bw:=aP.alloc (.cells #[i_ x] 2);have HM:Hid (wr.rangeLeft M r=o):=h_ aB.out.left_eq
     have d:=h_ (show ∀y,y∈xs++[x]↔f y=true/\(lf (Lit.int .i64 y)&& !(Lit.int .i64 y).sameKey (Lit.int .i64 x))=false from λy=>by
      rw[X_,bl.out,I_,zQ]
      by_cases e:y=x
      .subst e;simp[bG.out _ hl1]
      .simp[e])
     have aD:=h_ (show ∀y,(lf (Lit.int .i64 y)&& !(Lit.int .i64 y).sameKey (Lit.int .i64 x))=true->f y=true from λy q=>bG.out y (by simp at q;exact q.1));clear U aP hA P I j J au hg1 bS hl1 bV hv1 bn
     go_wp2_with (go_at_call 67;refine aK.out.mono ?_;rintro e Y⟨rfl,ax,F⟩)
     have aU:=yG bw F;have bT:=F.gr w (H_ _) a;go_roundw
     case rel=>exact⟨_,a8,_,aU,ax,d,aD,p_,bT⟩
     case measure=>rw[aU.left_eq,HM.out];omega
end
def oT(p:Nat)(w:World)(l:List Rw):Prop:=∃cur,Bk w p 56 cur/\∀(i:Nat) (u:Value),(jl l)[i]?=some u->cur[i]?=some u
section
variable{p:Nat}{w w':World}{l:List Rw}
theorem oT.os(h:oT p w l):Os w (j_ p) l:=by
 obtain⟨cur,hb,hc⟩:=h;exact⟨lk l,λ_=>⟨p,0,cur,(0,0),rfl,hb,λj u hu=>by rw[U_];exact hc j u hu⟩⟩
theorem oT.hG(h:oT p w l)(hg:Gr [] w w'):oT p w' l:=by
 obtain⟨cur,hb,hc⟩:=h;exact⟨cur,hb.hG hg,hc⟩
theorem oT.fr(h:oT p w l)(i:Nat):w.frozen? (c_ p i)=false:=by
 obtain⟨cur,hb,_⟩:=h;exact hb.hH i
theorem oT.set(h:oT p w l){k:Nat}(hk:k<l.length)(r:Rw):oT p ((w.setCell (c_ p (k*2)) (i_ r.o.id)).setCell (c_ p (k*2+1)) (.slice r.A r.o.fs.length r.c)) (l.set k r):=by
 obtain⟨cur,hb,hc⟩:=h;have h1:=pI Rw.E (λ_=>rfl) hk r (i_ r.o.id) (.slice r.A r.o.fs.length r.c) rfl hb hc l.length rfl;have bU:=(hb.hW (k*2) (i_ r.o.id)).hW (k*2+1) (.slice r.A r.o.fs.length r.c);obtain⟨b,off,cs,fz,hA,n,bT⟩:=h1.2 o_;injection hA with hA;injection hA with hA ho;subst hA;subst ho;have e:=bU.symm.trans n;injection e with e;injection e with e;exact⟨_,bU,λi u hu=>by rw[e];have:=bT i u hu;rwa [U_]at this⟩
theorem Ay(k:Nat)(x y:Value):Gr [p] w ((w.setCell (c_ p (k*2)) x).setCell (c_ p (k*2+1)) y):=
 ((F_ [p] w).setCell (p:=c_ p (k*2)) (.inl s_) x).setCell (p:=c_ p (k*2+1)) (.inl s_) y
theorem oT.vs(h:oT p w l)(hg:Gr [p] w w'){A:OA}{fs:List Vl}(hv:Vs w A fs):Vs w' A fs:=by
 obtain⟨cur,hb,_⟩:=h;exact Sl.iu hv hb d_ hg
end
theorem xm{co:TypeId}(o:Ob)(A:OA)(c:Nat)(w:World)(h:xz co w A o.fs)(hn:o.fs.length<=1000000000):
 Calls prog 158 #[.agg #[i_ o.id,.slice A o.fs.length c]] w λe w'=>∃(A':OA) (c':Nat),e=.returned (.agg #[i_ o.id,.slice A' o.fs.length c'])/\Vs w' A' o.fs/\Gr [] w w':=by
 obtain⟨id,fs⟩:=o;simp only at h hn |-;obtain⟨W,g,a2,aT,hg,J,I,hB,bz⟩:=v7 w 56 #[i_ id,.slice A fs.length c] 56 #[i_ 0,n_];obtain⟨U,ad⟩:=hB.iH;have aK:=h_ (rK A c fs W (h.hG I) hn)
 go_enter func158,ntmps158
 go_wp2_with fail
 go_at_call 151
 refine aK.out.mono ?_;rintro e w1⟨A1,c1,rfl,hv,hg1⟩;have bu:=hB.hG hg1;obtain⟨z0,aM⟩:=bu.iH;have bH:=bu.hH 1;have bK:=bz.hG hg1;obtain⟨bj,bn⟩:=bK.iH;have b8:=bK.hH 0;have dr:=bK.hH 1;have ao:a2≠g:=o_;go_wp2;have a:=bK.ih (p:=c_ g 1) ao (.slice A1 fs.length c1);have b4:=(a.hW 0 (i_ id)).hW 1 (.slice A1 fs.length c1);have bA:w.heap.size<=g:=o_;refine rr_ #[i_ id,.slice A1 fs.length c1] b4 underlying56 ⟨A1,c1,rfl,?_,?_⟩
 .exact Sl.iu (Sl.iu hv bu d_ ((F_ [g] w1).setCell (p:=c_ g 1) (.inl s_) _)) a d_ (((F_ [a2] _).setCell (p:=c_ a2 0) (.inl s_) _).setCell (p:=c_ a2 1) (.inl s_) _)
 .exact(((I.trans hg1).setCell (p:=c_ g 1) (.inr bA) _).setCell (p:=c_ a2 0) (.inr (by show w.heap.size<=a2;omega)) _).setCell (p:=c_ a2 1) (.inr (by show w.heap.size<=a2;omega)) _
theorem uQ(A:OA)(c:Nat)(l:List Rw)(w:World)(h:u3 aS w A l)(hn:l.length<=1000000000):
 Calls prog 193 #[.slice A l.length c] w λe w'=>∃(A':OA) (c':Nat),e=.returned (.slice A' l.length c')/\l.length<=c'/\w'.ownsRow w.heap.size 56 2 (.slice A' l.length c') l.length (jl l)/\Gr [] w w':=by
 obtain⟨bF,bE,bt,a8,bo⟩:=info_parts infoOb
 have am:=λW=>Lib.run_eql_slice_nil (P:=prog) W 33 56 A l.length c 0 0 underlying33
 rcases A with _|d
 .have h0:l.length=0:=Kv;have h1:l=[]:=EP h0;subst h1;simp only[EY]at am |-
  go_enter func193,ntmps193
  go_wp2;go_ret;exact⟨none,0,rfl,H_ _,iV _ _ _ _,F_ _ _⟩
 .generalize hL:l.length=n at*
  go_enter func193,ntmps193
  go_wp2_with (at_builtin;refine iL _ rfl (.tmp 5) (.tmp 6) 33 rfl w.heap.size 56 bF _ 2 32 underlying33 bE bt a8 bo rfl d_ d_ _ 0 0 [] rfl (ud _ _ _ _ _ s_ s_) (some d) n c (jl l) rfl (by subst hL;exact Sl.alloc h _) (jZ l) o_ s_ ?_;intro A1 c1 w1 a f;simp only[U_,EO]at a)
  go_ret;refine⟨A1,c1,og o_,jf a,a,f.gr [] w o_ ((F_ _ w).alloc _)⟩
theorem AJ{E:Rw->TypeId}(A:OA)(c:Nat)(l:List Rw)(w:World)(h:u3 aS w A l)(hr:tB E w l)(hn:l.length<=1000000000):
 Calls prog 157 #[.slice A l.length c,.func (.func 158) #[] #[]] w λe w'=>∃(A':OA) (c':Nat) (l':List Rw),e=.returned (.slice A' l.length c')/\hY l'=hY l/\l.length<=c'/\(0<l.length->∃p,A'=j_ p/\w.heap.size<=p/\oT p w' l')/\oa w' l'/\Gr [] w w':=by
 refine ia λQ ak=>?_
 have aK:=h_ (uQ A c l w h hn)
 go_enter func157,ntmps157
 go_wp2_with fail
 go_at_call 193
 refine aK.out.mono ?_;rintro e w1⟨A1,c1,rfl,cS,cX,hg1⟩
 go_wp2_with fail
 go_loopw [12] (λap wr=>∃(i:Nat) (l':List Rw),i<=l.length/\ap=i_ i/\l'.length=l.length/\Hid (hY l'=hY l)/\l'.drop i=l.drop i/\oa wr (l'.take i)/\(0<l.length->∃p,A1=j_ p/\w.heap.size<=p/\oT p wr l')/\Gr [] w wr) (λap _=>l.length-(intOf ap).toNat)
 case atStart=>
  refine⟨0,l,O_ _,gn,rfl,h_ rfl,rfl,λr hr=>by simp at hr,λh0=>?_,hg1⟩;obtain⟨p,cur,hA,hb,hB,hc⟩:=kA cX h0;exact⟨p,hA,hb,cur,hB,hc⟩
 case round=>
  obtain⟨i,l',hi,rfl,aH,D,b6,aq,aw,hg⟩:=hrel
  by_cases ag:i<l.length
  .obtain⟨p,hA,ao,hP⟩:=aw o_;subst hA;have aJ:i<l'.length:=o_
   have he:l'[i]=l[i]:=by
    have e:=b6;rw[R_ ag,R_ aJ]at e;injection e
   obtain⟨b,off,hA,bi,bq⟩:=hP.os.at_ aJ;injection hA with hA;injection hA with hA B;subst hA;subst B;obtain⟨hv,bB⟩:=hr.hG hg l[i] (N_ ag);rw[he]at bi bq;simp only[U_]at bi bq;have aX:=h_ he;clear he;have am:=h_ b6;clear b6;obtain⟨r,a⟩:=mn_ l[i];have bg:=h_ a;rw[a]at hv bB bi bq;clear a;obtain⟨W,gb,aT,aU,I,hB⟩:=box1 wr 56 #[i_ r.o.id,.slice r.A r.o.fs.length r.c];obtain⟨U,ad⟩:=hB.iH;have C:=h_ (xm r.o r.A r.c W (hv.hG I) bB);have cq:=hP.hG I;have N:=aq.hG I;have J:=hg.trans I;clear hP aq hB aK
   go_wp2_with fail
   go_at_call 158
   refine C.out.mono ?_;rintro e w2⟨av,ai,rfl,aV,S⟩;have aj:=cq.hG S;have aQ:=S.f_ (I.f_ bi s_) s_;have bj:=S.f_ (I.f_ bq s_) s_;have br:=aj.fr (i*2);have bH:=aj.fr (i*2+1);have de:=aj.set aJ ⟨r.o,av,ai⟩;have F:=Ay (p:=p) (w:=w2) i (i_ r.o.id) (.slice av r.o.fs.length ai);have bN:=aj.vs F aV
   have d:oa _ (l'.take i):=λx hx=>⟨aj.vs F (N.hG S x hx).1,(N.hG S x hx).2⟩
   have Z:=(J.trans S).hK F (λy hy=>.inr (by rw[I_]at hy;omega));clear aj F cq aV N;go_wp2;go_roundw
   case rel=>
    refine⟨i+1,l'.set i ⟨r.o,av,ai⟩,o_,gn,by simpa using aH,h_ ?_,?_,?_,λ_=>⟨p,rfl,ao,de⟩,Z⟩
    .rw[se,D.out];apply Gv;intro j;rw[GT];split
     .rename_i e;subst e
      have:(hY l)[i]?=some r.o:=by unfold hY;rw[E7,M_ ag,bg.out];rfl
      rw[this];simp[h9,ag]
     .rfl
    .rw[Ha o_,List.drop_add_one_eq_tail_drop,am.out,<-List.drop_add_one_eq_tail_drop]
    .intro x hx;rw[List.take_set,W_ aJ]at hx;rw[G4 _ _ p_]at hx
     rcases X_.1 hx with hx|hx
     .exact d x hx
     .have:x=⟨r.o,av,ai⟩:=by
       rw[E1,Gl o_,Nat.sub_self]at hx
       simpa using hx
      subst this;exact⟨bN,bB⟩
   case measure=>exact mz
  .go_wp2;rw[ak.out];refine⟨A1,c1,l',rfl,D.out,cS,aw,?_,hg⟩;rw[EI o_]at aq;exact aq
theorem vQ{E:Rw->TypeId}(A:OA)(c:Nat)(l:List Rw)(w:World)(h:u3 aS w A l)(hr:tB E w l)(hn:l.length<=1000000000):
 Calls prog 111 #[.agg #[.slice A l.length c]] w λe w'=>∃(A':OA) (c':Nat) (l':List Rw),e=.returned (.agg #[.slice A' l.length c'])/\hY l'=hY l/\l.length<=c'/\(0<l.length->∃p,A'=j_ p/\w.heap.size<=p/\oT p w' l')/\oa w' l'/\Gr [] w w':=by
 refine ia λQ ak=>?_
 obtain⟨W,g,a2,aT,hg,J,I,hB,bz⟩:=v7 w 35 #[.slice A l.length c] 35 #[n_];have U:=hB.f_ 0;have aK:=h_ (AJ A c l W (h.hG I) (hr.hG I) hn)
 go_enter func111,ntmps111
 go_wp2_with fail
 go_at_call 157
 refine aK.out.mono ?_;rintro e w1⟨A1,c1,l',rfl,ho,cS,aw,aq,hg1⟩;have bu:=bz.hG hg1;have bj:=bu.f_ 0;have br:=bu.hH 0;go_wp2;have bK:=bu.hW 0 (.slice A1 l.length c1);have M:Gr [a2] w1 (w1.setCell (c_ a2 0) (.slice A1 l.length c1)):=(F_ [a2] w1).setCell (p:=c_ a2 0) (.inl s_) _;refine rr_ #[.slice A1 l.length c1] bK underlying35 ?_;rw[ak.out];refine⟨A1,c1,l',rfl,ho,cS,λh0=>?_,λr hr=>⟨Sl.iu (aq r hr).1 bu d_ M,(aq r hr).2⟩,(I.trans hg1).hK M (λy hy=>.inr (by rw[I_]at hy;omega))⟩;obtain⟨p,hA,hp,cur,hb,hc⟩:=aw h0;refine⟨p,hA,G_ I.size hp,cur,hb.gr M (λq=>?_),hc⟩;rw[I_]at q
 have:=bz.lt
 omega
theorem sN{p k m c:Nat}{cur:Array Value}{w:World}(hB:Bk w p 56 cur)(hm:0<m)(hk:k*2+m*2<=cur.size):
 ∃w',(∀ty,(Builtin.clear_ #[33] ty #[.slice (some (c_ p (k*2))) m c]).run prog w=.ok (.tuple #[]) w')/\Gr [p] w w'/\∃bM,Bk w' p 56 bM/\∀i,i<k*2->bM[i]?=cur[i]?:=by
 obtain⟨m,rfl⟩:∃q,m=q+1:=⟨m-1,o_⟩
 have b:(Builtin.zeroCells #[i_ 0,n_] (m+1)).toList.length=(m+1)*2:=by simp[Builtin.zeroCells]
 have a8:∀v∈(Builtin.zeroCells #[i_ 0,n_] (m+1)).toList,v.oneCell'=true:=by
  intro v hv;simp[Builtin.zeroCells]at hv;obtain⟨a,ha,rfl⟩:=hv
  have:a % 2=0∨a % 2=1:=o_
  rcases this with h|h<;>simp[h,Value.oneCell']
 have bz:=run_storeCells_at prog p (k*2) 56 (Builtin.zeroCells #[i_ 0,n_] (m+1)).toList 0 cur w hB (by rw[b];omega) a8;simp only[FV]at bz
 have hv:=λW=>zeroValue56 W
 refine⟨_,λty=>by simp[Builtin.clear_,Fj underlying33,hv,bz,Value.cells];rfl,?_,?_⟩
 .exact⟨rfl,rfl,rfl,s_,λk hk hn=>setRow_other w p k _ (zu hn)⟩
 .refine⟨_,setRow_heap w p cur _ 56 (0,0) hB,λi hi=>?_⟩;rw[G5,Fv p_,List.getElem?_take_of_lt hi,Array.getElem?_toList]
def Eb(f s:Nat)(a:Ob->Bool)(p:Nat)(W:World):Prop:=
 ∀(o:Ob) (A:OA) (c:Nat) (w:World),Gr [p] W w->Calls prog 112 #[.agg #[i_ o.id,.slice A o.fs.length c],q_ f,q_ s] w λe w'=>e=.returned (.bool (a o))/\Gr [] w w'
theorem tP{f:Nat}{p n c:Nat}{l:List Rw}{W w:World}(D:Eb f s a p W)(hg:Gr [p] W w)(hP:oT p w l)(hn:l.length=n)(bC:n<=1000000000):
 Calls prog 156 #[.slice (j_ p) n c,.func (.func 112) #[] #[q_ f,q_ s]] w λe w'=>e=.returned (i_ (iO (λr:Rw=>a r.o) l 0))/\Gr [] w w':=by
 refine ia λQ ak=>?_
 have be:=h_ (show iO (λr:Rw=>a r.o) l 0=iO (λr:Rw=>a r.o) (l.drop 0) 0 from rfl);have v:=h_ D;clear D
 go_enter func156,ntmps156
 go_wp2
 go_loopw [8] (λap w'=>∃k:Nat,k<=n/\ap=i_ k/\Hid (iO (λr:Rw=>a r.o) l 0=iO (λr:Rw=>a r.o) (l.drop k) k)/\Gr [] w w') (λap _=>n-(intOf ap).toNat)
 case atStart=>exact⟨0,O_ _,gn,be,F_ _ _⟩
 case round=>
  obtain⟨k,hk,rfl,aI,F⟩:=hrel
  by_cases ag:k<n
  .have az:k<l.length:=o_;obtain⟨b,off,hA,bi,bq⟩:=(hP.hG F).os.at_ az;injection hA with hA;injection hA with hA B;subst hA;subst B;simp only[U_]at bi bq;have bM:=h_ (lO (λr:Rw=>a r.o) l k k az);have HM:=h_ (kB (λr:Rw=>a r.o) l k k az);generalize l[k]=r at*;have aK:=h_ (v.out r.o r.A r.c wr (hg.hK F s_));clear az
   go_wp2_with fail
   go_at_call 112
   refine aK.out.mono ?_;rintro e w2⟨rfl,J⟩;have bR:=F.trans J
   cases hp:a r.o with
   |true=>
    have aX:=h_ (bM.out hp);clear hp;go_wp2;rw[ak.out,aI.out,aX.out];exact⟨rfl,bR⟩
   |false=>
    have aX:=h_ (HM.out hp);clear hp;go_wp2;go_roundw
    case rel=>exact⟨k+1,o_,gn,h_ (by rw[aI.out,aX.out]),bR⟩
    case measure=>exact mz
  .go_wp2;rw[ak.out,aI.out,my _ _ _ _ o_];exact⟨rfl,F⟩
theorem Ao(q:α->Bool)(l:List α):(iO q l 0= -1/\∀x∈l,q x=false)∨∃k,∃hk:k<l.length,iO q l 0=(k:Nat)/\q l[k]=true/\∀x∈l.take k,q x=false:=by
 suffices H:∀j:Nat,(iO q l j= -1/\∀x∈l,q x=false)∨∃k,∃hk:k<l.length,iO q l j=(j+k:Nat)/\q l[k]=true/\∀x∈l.take k,q x=false by
  rcases H 0 with h|⟨k,hk,h1,h2⟩
  .exact .inl h
  .exact .inr ⟨k,hk,by rw[h1];simp,h2⟩
 induction l with
 |nil=>intro j;left;exact⟨rfl,λx hx=>by cases hx⟩
 |cons o l Z=>
  intro j
  by_cases hp:q o=true
  .right;exact⟨0,s_,by simp[iO,hp],by simpa using hp,λx hx=>by simp at hx⟩
  .have aJ:iO q (o::l) j=iO q l (j+1):=by simp[iO,hp]
   have hp:q o=false:=zu hp;rw[aJ]
   rcases Z (j+1)with⟨h1,h2⟩|⟨k,hk,h1,h2,h3⟩
   .exact .inl ⟨h1,λx hx=>by rcases L_.1 hx with rfl|hx;exact hp;exact h2 x hx⟩
   .refine .inr ⟨k+1,by simpa using hk,by rw[h1];congr 1;omega,by simpa using h2,λx hx=>?_⟩;rw[Gz]at hx
    rcases L_.1 hx with rfl|hx
    .exact hp
    .exact h3 x hx
theorem um{q:α->Bool}{l:List α}(h:∀x∈l,q x=false):l.filter (λx=> !q x)=l:=List.filter_eq_self.2 λx hx=>by simp[h x hx]
theorem vS{f:Nat}{p n c:Nat}{l:List Rw}{w:World}(D:Eb f s a p w)(hP:oT p w l)(hn:l.length=n)(bC:n<=1000000000)(aN:n<=c):
 Calls prog 110 #[.slice (j_ p) n c,.func (.func 112) #[] #[q_ f,q_ s]] w λe w'=>∃l',e=.returned (.slice (j_ p) l'.length c)/\l'=l.filter (λr=> !a r.o)/\Os w' (j_ p) l'/\Gr [p] w w':=by
 refine ia λQ ak=>?_
 have v:=h_ D;have aK:=h_ (tP D (F_ [p] w) hP hn bC (c:=c));clear D
 rcases Ao (λr:Rw=>a r.o) l with⟨hi,ha⟩|⟨k,hk,hi,am,ha⟩
 .have aI:=h_ hi;have HA:=h_ (um (q:=λr:Rw=>a r.o) ha);clear hi ha
  go_enter func110,ntmps110
  go_wp2_with fail
  go_at_call 156
  refine aK.out.mono ?_;rintro e w1⟨rfl,hg1⟩;rw[aI.out];go_wp2;rw[ak.out];exact⟨l,by rw[hn];rfl,HA.out.symm,(hP.hG hg1).os,(F_ [p] w).hK hg1 s_⟩
 .have aI:=h_ hi
  have HA:=h_ (show(l.take (k+1)).filter (λr=> !a r.o)=l.take k by
   rw[W_ hk,GM,um ha]
   simp[am])
  clear hi ha am
  go_enter func110,ntmps110
  go_wp2_with fail
  go_at_call 156
  refine aK.out.mono ?_;rintro e w1⟨rfl,hg1⟩;rw[aI.out];have be:=hP.hG hg1;have A:=(F_ [p] w).hK hg1 (by simp:∀x∈([]:List Nat),x∈[p]∨w.heap.size<=x);clear hP
  go_wp2_with fail
  go_loopw [5,6] (λap d wr=>∃(i j:Nat) (l':List Rw),i<j/\j<=n/\ap=i_ i/\d=i_ j/\oT p wr l'/\l'.length=n/\Hid (l'.take i=(l.take j).filter (λr=> !a r.o))/\Hid (l'.drop j=l.drop j)/\Gr [p] w wr) (λ_ d _=>n-(intOf d).toNat)
  case atStart=>exact⟨k,k+1,l,o_,o_,gn,gn,be,hn,h_ HA.out.symm,h_ rfl,A⟩
  case round=>
   clear be A HA;obtain⟨i,j,l',H,hj,rfl,rfl,hP,aH,bL,HD,hg⟩:=hrel
   by_cases ag:j<n
   .have bp:j<l'.length:=o_;have E:j<l.length:=o_;have aS:i<l'.length:=o_;obtain⟨b,off,hA,bi,bq⟩:=hP.os.at_ bp;injection hA with hA;injection hA with hA B;subst hA;subst B;obtain⟨b,off,hA,ai,bg⟩:=hP.os.at_ aS;injection hA with hA;injection hA with hA B;subst hA;subst B;simp only[U_]at bi bq ai bg
    have he:l'[j]=l[j]/\l'.drop (j+1)=l.drop (j+1):=by
     have e:=HD.out;rw[R_ bp,R_ E]at e;injection e with aJ aG;exact⟨aJ,aG⟩
    rw[he.1]at bi bq;have b4:=h_ he.2
    have af:=h_ (show(l.take (j+1)).filter (λr=> !a r.o)=(l.take j).filter (λr=> !a r.o)++(if a l[j].o=true then[] else[l[j]]) by
     rw[W_ E,GM]
     cases hp:a l[j].o<;>simp[hp])
    clear he;generalize l[j]=r at*;obtain⟨W,gb,aT,aU,I,hB⟩:=box1 wr 56 #[i_ r.o.id,.slice r.A r.o.fs.length r.c];have z:=hg.hK I (by simp:∀x∈([]:List Nat),x∈[p]∨w.heap.size<=x);have C:=h_ (v.out r.o r.A r.c W z);have cq:=hP.hG I;obtain⟨U,ad⟩:=hB.iH
    go_wp2_with fail
    go_at_call 112
    refine C.out.mono ?_;rintro e w2⟨rfl,J⟩;have aj:=cq.hG J;have er:=z.hK J (by simp:∀x∈([]:List Nat),x∈[p]∨w.heap.size<=x)
    cases hp:a r.o with
    |true=>
     have aO:=h_ (show(l.take (j+1)).filter (λr=> !a r.o)=(l.take j).filter (λr=> !a r.o) by rw[af.out,hp];simp);have g:=h_ (bL.out.trans aO.out.symm);clear hp hP cq hB;go_wp2;go_roundw
     case rel=>repeat(first|(refine⟨?_,rfl⟩;exact⟨i,j+1,l',o_,o_,rfl,gn,aj,aH,g,b4,er⟩)|apply Exists.intro)
     case measure=>exact mz
    |false=>
     have aO:=h_ (show(l.take (j+1)).filter (λr=> !a r.o)=(l.take j).filter (λr=> !a r.o)++[r] by rw[af.out,hp];simp);have bu:=hB.hG J;obtain⟨z0,aM⟩:=bu.iH;have aQ:=J.f_ (I.f_ ai s_) s_;have bj:=J.f_ (I.f_ bg s_) s_;have br:=aj.fr (i*2);have bH:=aj.fr (i*2+1);have de:=aj.set aS r;have F:=Ay (p:=p) (w:=w2) i (i_ r.o.id) (.slice r.A r.o.fs.length r.c);have G:=er.trans F
     have g:=h_ (show(l'.set i r).take (i+1)=(l.take (j+1)).filter (λr=> !a r.o) by
      rw[aO.out,<-bL.out,List.take_set,W_ aS,G4 _ _ p_]
      simp[Gl (Nat.le_of_lt aS)])
     have b8:=h_ (show(l'.set i r).drop (j+1)=l.drop (j+1) by rw[Ha o_];exact b4.out);clear hp hP cq aj hB F;go_wp2;go_roundw
     case rel=>repeat(first|(refine⟨?_,rfl⟩;exact⟨i+1,j+1,l'.set i r,o_,o_,gn,gn,de,by simpa using aH,g,b8,G⟩)|apply Exists.intro)
     case measure=>exact mz
   .have dY:j=n:=o_;subst dY;obtain⟨cur,hB,y⟩:=hP
    have az:l'.length*2<=cur.size:=by
     rcases Fd l'.length with h0|h0
     .omega
     .have iM:(jl l').length=l'.length*2:=lk l';have hl1:l'.length*2-1<(jl l').length:=o_
      have:=y _ _ (M_ hl1)
      rcases EJ (l'.length*2-1) cur.size with h|h
      .omega
      .exact LK
    obtain⟨ae,hcl,S,bM,bu,t⟩:=sN (k:=i) (m:=j-i) (c:=c-i) hB o_ o_;have g:=h_ (show l'.take i=l.filter (λr=> !a r.o) by have e:=bL.out;rwa [EI (l:=l) o_]at e);go_wp2;rw[ak.out];refine⟨l'.take i,by rw[E1,Gl o_];rfl,g.out,⟨lk _,λ_=>⟨p,0,bM,(0,0),rfl,bu,λq u hu=>?_⟩⟩,hg.trans S⟩;unfold jl at hu;rw[tt Rw.E 2 (λ_=>rfl),Fk]at hu;split at hu
    .rw[U_,t q (by assumption)];exact y q u hu
    .cases hu
def xP(t:i3)(M:List Int):Nat->List Int
 |0=>k9 t.gs++(k9 t.rs++(k9 t.ws++M))
 |1=>k9 t.rs++(k9 t.ws++M)
 |2=>k9 t.ws++M
 |_=>M
theorem vo(t:i3)(R:List Int):nv t++R=xP t (t.ds.map (·.id)++(m6 t.nw++R)) 0:=by
 simp[nv,xP]
theorem wX{fs:List Vl}(hj:j<fs.length):pW (fs.drop j)=p7 fs[j]++pW (fs.drop (j+1)):=by
 rw[R_ hj];unfold pW p7;rw[Gi];split<;>simp
theorem wY{h:List Ob}(hj:j<h.length):m6 (h.drop j)=pW h[j].fs++m6 (h.drop (j+1)):=by
 rw[R_ hj]
 rfl
theorem An{xs r L:List Int}(h:xs++r=L):xs.length<=L.length:=by rw[<-h];simp
theorem qX{P:Program}{rest:List Oper}{o:Oper}{a:Act}{w:World}{i:Operand}{t:TypeId}{cs:Array Value}{n:Int}{v:Value}(N:(Instr.index t (.agg cs) (i_ n)).run P w=.ok v w)(h:wpList P ops Q rest (a.put o.dst v) w)(V:o.guard=none:=by rfl)(ho:o.op=.index t x i:=by rfl)(hx:a.eval x=.agg cs:=by rfl)(hi:a.eval i=i_ n:=by rfl):wpList P ops Q (o::rest) a w:=
 wpList_plain V λ_ H=>by
  unfold Oper.wp;simp[execOp,ho,hx,hi,N,Result.andThen];exact H _ _ h
theorem DW(a b c:Value)(w:World):(Instr.index 121 (.agg #[a,b,c]) (i_ 0)).run prog w=.ok a w/\(Instr.index 121 (.agg #[a,b,c]) (i_ 1)).run prog w=.ok b w/\(Instr.index 121 (.agg #[a,b,c]) (i_ 2)).run prog w=.ok c w:=⟨k_,k_,k_⟩
theorem yz{K:TypeId}(TA:OA)(tc:Nat)(ts:List Tk)(w:World)(O:Sl w K 48 TA ts.length (ts.flatMap λt=>t.g_.toList))(N:∀t∈ts,za w t)(hn:(k8 (ts.map Tk.p)).length<=1000000000)
 (hb:ts.length<=1000000000/\∀t∈ts,t.gs.l.length<=1000000000/\t.rs.l.length<=1000000000/\t.ws.l.length<=1000000000/\t.ds.l.length<=1000000000/\t.nw.l.length<=1000000000):
 Calls prog 28 #[.slice TA ts.length tc] w (nX (oX (k8 (ts.map Tk.p))) w):=by
 refine ia λQ ak=>?_
 obtain⟨W,g,aT,bA,I,hB⟩:=box1 w 119 #[n_];have V:GA w.heap.size W g []:=⟨o_,none,0,hB,Zr.nil⟩;have hg1:=(F_ [] W).alloc (.cells #[i_ 1] 2);have aK:=h_ (pr (c:=1) (V.hG hg1) (Ls.one W 1) (by have:=I.size;simp;omega) s_);have aR:Fx w.heap.size [119,2] w (W.alloc (.cells #[i_ 1] 2)):=.jC (I.trans hg1);have aI:=h_ N;have aW:=h_ hn;have h:=h_ (show[1]++((ts.drop 0).flatMap λt=>nv t.p)=k8 (ts.map Tk.p) by unfold k8;rw[List.flatMap_map];rfl);have n:=hb.1;have a6:=h_ hb.2;generalize k8 (ts.map Tk.p)=L at*;obtain⟨base,br⟩:=nm_ w.heap.size;rw[<-br]at aK aR;have de:w.heap.size<=base:=o_;have ad:base<=w.heap.size:=o_;clear N hn hb V hB I hg1 br
 go_enter func28,ntmps28
 go_wp2_with fail
 go_at_call 67
 refine aK.out.mono ?_;rintro e w1⟨rfl,P,s⟩;have s:=aR.trans s;clear aR aK
 go_wp2_with fail
 go_loopw [21] (λap wr=>∃(k:Nat) (xs:List Int),k<=ts.length/\ap=i_ k/\GA base wr g xs/\Hid (xs++((ts.drop k).flatMap λt=>nv t.p)=L)/\Fx base [119,2] w wr) (λap _=>ts.length-(intOf ap).toNat)
 case atStart=>exact⟨0,_,O_ _,gn,P,h,s⟩
 case round=>
  clear P s h;obtain⟨k,xs,hk,rfl,hA,bl,aj⟩:=hrel;have F:=aj.gr w de (F_ [] w)
  by_cases ag:k<ts.length
  .obtain⟨b,off,P,hc⟩:=C3 O ag;subst P;have z:=aI.out _ (N_ ag);have U:=a6.out _ (N_ ag)
   have d:=h_ (show xs++xP ts[k].p ((ts[k].p.ds.map (·.id))++(m6 ts[k].p.nw++((ts.drop (k+1)).flatMap λt=>nv t.p))) 0=L by
    have e:=bl.out;rw[R_ ag,E0,vo]at e
    exact e)
   obtain⟨R,hR⟩:=mn_ ((ts.drop (k+1)).flatMap λt=>nv t.p);rw[hR]at d;have bg:=h_ hR;clear hR;generalize ts[k]=t at*
   have ew:∀j,j<48->wr.cell? (c_ b (off+k*48+j))=t.g_[j]?:=λj hj=>by
    have h1:=hc j hj
    have hs:j<t.g_.size:=by rw[Tk.size];exact hj
    rw[EH hs]at h1 |-;exact F.f_ h1 s_
   clear hc bl
   go_upto_region 6 with(first|(refine Ew ew ?_)|(refine kQ (t.g_) (P_ wr 53 lv) (Tk.one _) ?_;intro aY n aC))
   have a:Gr [] wr aY:=((F_ [] wr).alloc _).hK aC (λy hy=>.inr (by rw[I_]at hy;omega));have B:=hA.hG a;have ar:=aj.trans (.jC a);generalize wr.heap.size=gt at*;clear hA aj ew aC a F;have M:aY.cell? (c_ gt 36)=some (.slice t.gs.A t.gs.l.length t.gs.c):=(n.f_ 36).trans rfl;have S:aY.cell? (c_ gt 37)=some (.slice t.rs.A t.rs.l.length t.rs.c):=(n.f_ 37).trans rfl;have T:aY.cell? (c_ gt 38)=some (.slice t.ws.A t.ws.l.length t.ws.c):=(n.f_ 38).trans rfl
   go_wp2_with fail
   go_loopw [32] (λap wr=>∃(k:Nat) (xs:List Int),k<=3/\ap=i_ k/\GA base wr g xs/\Hid (xs++xP t.p ((t.p.ds.map (·.id))++(m6 t.p.nw++R)) k=L)/\Bk wr gt 53 t.g_/\Fx base [119,2] w wr) (λap _=>3-(intOf ap).toNat)
   case atStart=>exact⟨0,xs,o_,gn,B,d,n,ar⟩
   case round=>
    clear B d n ar M S T;obtain⟨m,xs,hm,rfl,hA,bl,n,aj⟩:=hrel;have F:=aj.gr w de (F_ [] w);obtain⟨_,s1⟩:=z.gs;obtain⟨_,b0⟩:=z.rs;obtain⟨_,cv⟩:=z.ws;have D:=aj.size;have bt:=aW.out
    by_cases h3:m<3
    .have HG:∀(A:OA) (c:Nat) (cs:List Cl) (R':List Int) {e},Sl w e 4 A cs.length (cs.flatMap Cl.E)->cs.length<=1000000000->xs++(k9 cs++R')=L->Hid (Calls prog 68 #[q_ g,.slice A cs.length c] wr λe w'=>e=.returned (.tuple #[])/\(∃l',GA base w' g l'/\l'++R'=L)/\Fx base [119,2] wr w'):=
      λA c cs R' _ hs hl he=>h_ (xh (c:=c) hA de F hs o_ he bt hl)
     obtain rfl|rfl|rfl:m=0∨m=1∨m=2:=by omega
     .have aK:=HG t.gs.A t.gs.c t.gs.l _ s1 U.1 bl.out;clear HG
      go_wp2_with (first|(refine qX (DW _ _ _ wr).1 ?_)|go_at_call 68;refine aK.out.mono ?_;rintro e w2⟨rfl,⟨l',B,ca⟩,ar⟩)
      go_roundw
      case rel=>exact⟨1,l',o_,gn,B,h_ ca,ar.bk n,aj.trans ar⟩
      case measure=>simp[intOf]
     .have aK:=HG t.rs.A t.rs.c t.rs.l _ b0 U.2.1 bl.out;clear HG
      go_wp2_with (first|(refine qX (DW _ _ _ wr).2.1 ?_)|go_at_call 68;refine aK.out.mono ?_;rintro e w2⟨rfl,⟨l',B,ca⟩,ar⟩)
      go_roundw
      case rel=>exact⟨2,l',o_,gn,B,h_ ca,ar.bk n,aj.trans ar⟩
      case measure=>simp[intOf]
     .have aK:=HG t.ws.A t.ws.c t.ws.l _ cv U.2.2.1 bl.out;clear HG
      go_wp2_with (first|(refine qX (DW _ _ _ wr).2.2 ?_)|go_at_call 68;refine aK.out.mono ?_;rintro e w2⟨rfl,⟨l',B,ca⟩,ar⟩)
      go_roundw
      case rel=>exact⟨3,l',o_,gn,B,h_ ca,ar.bk n,aj.trans ar⟩
      case measure=>simp[intOf]
    .obtain rfl:m=3:=by omega
     have Z:wr.cell? (c_ gt 40)=some (.slice t.ds.A t.ds.l.length t.ds.c):=(n.f_ 40).trans rfl;clear s1 b0 cv;obtain⟨_,dm⟩:=z.ds;obtain⟨_,b7⟩:=z.nw;obtain⟨_,bR⟩:=z.nr;have f:=h_ (show xs++((t.ds.l.drop 0).map (·.id)++(m6 ((hY t.nw.l).drop 0)++R))=L from bl.out);clear bl z F
     go_wp2_with fail
     go_loopw [42] (λap wr=>∃(j:Nat) (xs:List Int),j<=t.ds.l.length/\ap=i_ j/\GA base wr g xs/\Hid (xs++((t.ds.l.drop j).map (·.id)++(m6 ((hY t.nw.l).drop 0)++R))=L)/\Bk wr gt 53 t.g_/\Fx base [119,2] w wr) (λap _=>t.ds.l.length-(intOf ap).toNat)
     case atStart=>exact⟨0,xs,O_ _,gn,hA,f,n,aj⟩
     case round=>
      clear hA f n aj Z;obtain⟨j,xs,hj,rfl,hA,bl,n,aj⟩:=hrel;have F:=aj.gr w de (F_ [] w);have D:=aj.size
      by_cases bp:j<t.ds.l.length
      .obtain⟨b2,i,B,bi,bq,bK,bT,bF⟩:=Dp dm bp;have z0:=F.f_ bi s_;have aM:=F.f_ bq s_;have aV:=F.f_ bK s_;have z3:=F.f_ bT s_;have z4:=F.f_ bF s_
       have d:=h_ (show(xs++[t.ds.l[j].id])++((t.ds.l.drop (j+1)).map (·.id)++(m6 ((hY t.nw.l).drop 0)++R))=L by
        have e:=bl.out;rw[R_ bp]at e;rw[<-e]
        simp only[Fg,Fc,F8,EO])
       have iM:=An d.out;simp only[J_,Z_,EY]at iM;generalize t.ds.l[j]=x at*;generalize t.ds.A=dA at*;subst B;clear bi bq bK bT bF F bl;obtain⟨aH,gb,bC,aU,hg1,am⟩:=box1 wr 124 #[i_ x.id,i_ x.f,i_ x.op,.bool x.v.r,i_ x.v.n];have hq0:=am.f_ 0;have J:=hg1.alloc (.cells #[i_ x.id] 2);have aK:=h_ (pr (c:=1) (hA.hG J) (Ls.one aH x.id) (ov J.size) (by simp only[Z_,EY];have:=aW.out;omega));have q:=h_ (n.hG J);have ar:=aj.trans (.jC J);clear n aj hA am hg1 J
       go_wp2_with (go_at_call 67;refine aK.out.mono ?_;rintro e w2⟨rfl,af,u⟩)
       go_roundw
       case rel=>
        repeat(first|(refine⟨?_,rfl⟩;exact⟨j+1,_,o_,gn,af,d,u.bk q.out,ar.trans u⟩)|apply Exists.intro)
       case measure=>exact mz
      .have f:=h_ (show xs++(m6 ((hY t.nw.l).drop 0)++R)=L by
        have e:=bl.out;rw[FO (l:=t.ds.l) o_]at e
        exact e)
       have Y:wr.cell? (c_ gt 39)=some (.slice t.nw.A t.nw.l.length t.nw.c):=(n.f_ 39).trans rfl;clear bl F dm
       go_wp2_with fail
       go_loopw [55] (λap wr=>∃(j:Nat) (xs:List Int),j<=t.nw.l.length/\ap=i_ j/\GA base wr g xs/\Hid (xs++(m6 ((hY t.nw.l).drop j)++R)=L)/\Fx base [119,2] w wr) (λap _=>t.nw.l.length-(intOf ap).toNat)
       case atStart=>exact⟨0,xs,O_ _,gn,hA,f,aj⟩
       case round=>
        clear hA f n aj Y;obtain⟨j,xs,hj,rfl,hA,bl,aj⟩:=hrel;have F:=aj.gr w de (F_ [] w);have D:=aj.size
        by_cases bp:j<t.nw.l.length
        .obtain⟨b2,i,B,bi,bq⟩:=b7.at_ bp;obtain⟨hv,bB⟩:=bR _ (N_ bp);have z0:=F.f_ bi s_;have aM:=F.f_ bq s_
         have d:=h_ (show xs++(pW (t.nw.l[j].o.fs.drop 0)++(m6 ((hY t.nw.l).drop (j+1))++R))=L by
          have e:=bl.out;rw[wY (by rw[h9];exact bp)]at e;rw[<-e]
          simp[hY])
         obtain⟨C,cf⟩:=mn_ (m6 ((hY t.nw.l).drop (j+1))++R);rw[cf]at d;have H:=h_ cf;clear cf;generalize t.nw.l[j]=r at*;generalize t.nw.A=ae at*;subst B;clear bi bq bl;have hg1:=(F_ [] wr).alloc (.cells #[i_ r.o.id,.slice r.A r.o.fs.length r.c] 56);obtain⟨bj,bn⟩:=(P_ wr 56 #[i_ r.o.id,.slice r.A r.o.fs.length r.c]).iH;have af:=hA.hG hg1;have u:=aj.trans (.jC hg1);clear hA aj F
         go_wp2_with fail
         go_loopw [62] (λap wr=>∃(m:Nat) (xs:List Int),m<=r.o.fs.length/\ap=i_ m/\GA base wr g xs/\Hid (xs++(pW (r.o.fs.drop m)++C)=L)/\Fx base [119,2] w wr) (λap _=>r.o.fs.length-(intOf ap).toNat)
         case atStart=>exact⟨0,xs,O_ _,gn,af,d,u⟩
         case round=>
          clear af d u bj bn;obtain⟨m,xs,hm,rfl,hA,bl,aj⟩:=hrel;have F:=aj.gr w de (F_ [] w);have D:=aj.size
          by_cases G:m<r.o.fs.length
          .obtain⟨b3,cw,af,b6,bE⟩:=hv.at_ G;have z0:=F.f_ b6 s_;have aM:=F.f_ bE s_
           have d:=h_ (show(xs++p7 r.o.fs[m])++(pW (r.o.fs.drop (m+1))++C)=L by
            have e:=bl.out;rw[wX G]at e;rw[<-e]
            simp only[Fc])
           have iM:=An d.out;simp only[J_]at iM;generalize r.o.fs[m]=v at*;generalize r.A=b4 at*;subst af;clear b6 bE bl F;have hg1:=(F_ [] wr).alloc (.cells #[.bool v.r,i_ v.n] 38);obtain⟨bj,bn⟩:=(P_ wr 38 #[.bool v.r,i_ v.n]).iH;have aK:=h_ (tg (v:=v) (hA.hG hg1) (ov hg1.size) (ov aW.out));have u:=aj.trans (.jC hg1);clear hA aj
           go_wp2_with (go_at_call 69;refine aK.out.mono ?_;rintro e w2⟨rfl,af,E⟩)
           go_roundw
           case rel=>
            repeat(first|(refine⟨?_,rfl⟩;exact⟨m+1,_,o_,gn,af,d,u.trans E⟩)|apply Exists.intro)
           case measure=>exact mz
          .go_wp2;go_roundw
           case rel=>exact⟨j+1,xs,o_,gn,hA,h_ (by
            have e:=bl.out;rw[FO (l:=r.o.fs) o_,<-H.out]at e
            exact e),aj⟩
           case measure=>exact mz
        .go_wp2;go_roundw
         case rel=>exact⟨k+1,xs,o_,gn,hA,h_ (by
          have e:=bl.out;rw[FO (l:=hY t.nw.l) (by rw[h9];omega),<-bg.out]at e
          exact e),aj⟩
         case measure=>exact mz
  .have e:=bl.out;rw[FO o_]at e;simp only[List.flatMap_nil,GE]at e;subst e;have bG:=h_ (rL hA aW.out (ov aj.size))
   go_wp2_with (go_at_call 70;refine bG.out.mono ?_;rintro e w2⟨av,ai,rfl,ca,X,ar⟩)
   rw[ak.out];exact⟨av,ai,rfl,ca,X,ar.gr w de F⟩
section
open Go.RowKit Go.Shelf
theorem wR{e:TypeId}(A:OA)(c:Nat)(ys:List Int)(x:Int)(w:World)(h:Sl w e 1 A ys.length (zs ys))(hs:ys.Pairwise (· < ·))(hn:ys.length<=1000000000):
 Calls prog 113 #[.slice A ys.length c,i_ x] w λe w'=>∃k:Int,e=.returned (.tuple #[i_ k,.bool (decide (x∈ys))])/\Gr [] w w':=by
 rcases Fd ys.length with h0|h0
 .have hy:ys=[]:=EP h0;subst hy
  refine ia λQ ak=>?_
  go_enter func113,ntmps113
  go_wp2
  go_loopw [7,8] (λap d wr=>ap=i_ 0/\d=i_ 0/\Gr [] w wr) (λ_ _ _=>0)
  case atStart=>exact⟨rfl,gn,F_ _ _⟩
  case round=>
   obtain⟨rfl,rfl,hg⟩:=hrel;go_wp2;rw[ak.out];exact⟨0,rfl,hg⟩
 .obtain⟨b,off,rfl,hc⟩:=Sl.f_ h h0
  have aK:=AnyG.slices_BinarySearch_int srchA b off ys.length c ys x w (H_ _) o_ (λj hj=>by
   have:=hc j (i_ ys[j]) (by simp[hj])
   rw[this]
   simp[List.getD,M_ hj]) (by rw[FD];exact hs.imp λh=>by omega)
  refine aK.mono ?_;rintro e w'⟨rfl,q,rfl⟩;exact⟨_,by rw[FD,List.contains_eq_mem],(F_ [] w).drewN q⟩
theorem BS{f p:Nat}{A:OA}{c:Nat}{ys:List Int}{l:List Rw}{W:World}(h1:Bk W f 27 #[.slice A ys.length c])(h2:Bk W s 4 #[.bool rb])(hl:Ls W A ys)(hs:ys.Pairwise (· < ·))(hn:ys.length<=1000000000)(hP:oT p W l):
 Eb f s (λo=>decide (o.id∈ys) !=rb) p W:=by
 intro o B d w hg;obtain⟨cur,hB,_⟩:=hP
 have ao:∀{g t cs},Bk W g t cs->t≠56->Bk w g t cs:=λ{g t cs} h ht=>h.gr hg (λq=>by
  rw[I_]at q;subst q
  have:=h.symm.trans hB
  injection this with this;injection this with _ this
  exact ht this)
 have bV:=ao h1 d_;have bz:=ao h2 d_;have m:Ls w A ys:=Sl.iu hl hB d_ hg
 refine ia λQ ak=>?_
 obtain⟨aH,g,bC,bA,I,O⟩:=box1 w 56 #[i_ o.id,.slice B o.fs.length d];have U:=O.f_ 0;have bj:=(bV.hG I).f_ 0;have P:=(bz.hG I).f_ 0;have aK:=h_ (wR A c ys o.id aH (Sl.hG m I) hs hn);have a:=bz.hG I;clear h1 h2 hl hB ao bV bz m hg
 go_enter func112,ntmps112
 go_wp2_with (go_at_call 113;refine aK.out.mono ?_;rintro e ae⟨k,rfl,S⟩;have aj:=(a.hG S).f_ 0)
 rw[ak.out];exact⟨rfl,I.trans S⟩
theorem tO(A:OA)(c:Nat)(f:Value)(w:World):Calls prog 156 #[.slice A 0 c,f] w λe w'=>e=.returned (i_ (-1))/\w=w':=by
 refine ia λQ ak=>?_
 go_enter func156,ntmps156
 go_wp2
 go_loopw [8] (λap wr=>ap=i_ 0/\w=wr) (λ_ _=>0)
 case atStart=>exact⟨gn,rfl⟩
 case round=>
  obtain⟨rfl,rfl⟩:=hrel;go_wp2;rw[ak.out];exact LN
theorem vR(A:OA)(c:Nat)(f:Value)(w:World):Calls prog 110 #[.slice A 0 c,f] w λe w'=>e=.returned (.slice A 0 c)/\w=w':=by
 refine ia λQ ak=>?_
 go_enter func110,ntmps110
 go_wp2_with (go_at_call 156;refine(tO A c f w).mono ?_;rintro e w1⟨rfl,rfl⟩)
 rw[ak.out];exact LN
end
theorem tW{P:Program}{rest:List Oper}{o:Oper}{a:Act}{w:World}{t:TypeId}{f:Nat}{v u:Value}(N:(Instr.field t v f).run P w=.ok u w)(h:wpList P ops Q rest (a.put o.dst u) w)(V:o.guard=none:=by rfl)(ho:o.op=.field t x f:=by rfl)(hx:a.eval x=v:=by rfl):wpList P ops Q (o::rest) a w:=
 wpList_plain V λ_ H=>by
  unfold Oper.wp;simp[execOp,ho,hx,N,Result.andThen];exact H _ _ h
theorem CJ(v:Value)(w:World):(Instr.field 35 (.agg #[v]) 0).run prog w=.ok v w:=k_
structure HM(w:World)(A:OA)(l:List Rw):Prop where
 os:∃e,u3 e w A l
 kZ:∃E,tB E w l
 len:l.length<=50000000
 zero:(0:Int)∉iG (hY l)
 wf:∀x∈iG (hY l),mJ x
theorem HM.hG{w w':World}{A:OA}{l:List Rw}(h:HM w A l)(hg:Gr [] w w'):HM w' A l:=
 ⟨let⟨e,k⟩:=h.os;⟨e,k.hG hg⟩,let⟨e,k⟩:=h.kZ;⟨e,k.hG hg⟩,h.len,h.zero,h.wf⟩
structure TM(w:World)(A:OA)(ts:List Tk):Prop where
 row:∃e,Sl w e 48 A ts.length (ts.flatMap λt=>t.g_.toList)
 xH:∀t∈ts,za w t
 few:(k8 (ts.map Tk.p)).length<=1000000000
 len:ts.length<=1000000000
 lens:∀t∈ts,t.gs.l.length<=1000000000/\t.rs.l.length<=1000000000/\t.ws.l.length<=1000000000/\t.ds.l.length<=1000000000/\t.nw.l.length<=1000000000
theorem za.hG{w w':World}{t:Tk}(h:za w t)(hg:Gr [] w w'):za w' t:=
 ⟨let⟨e,k⟩:=h.gs;⟨e,Sl.hG k hg⟩,let⟨e,k⟩:=h.rs;⟨e,Sl.hG k hg⟩,let⟨e,k⟩:=h.ws;⟨e,Sl.hG k hg⟩,let⟨e,k⟩:=h.ds;⟨e,Sl.hG k hg⟩,let⟨e,k⟩:=h.nw;⟨e,k.hG hg⟩,let⟨e,k⟩:=h.nr;⟨e,k.hG hg⟩⟩
theorem TM.hG{w w':World}{A:OA}{ts:List Tk}(h:TM w A ts)(hg:Gr [] w w'):TM w' A ts:=
 ⟨let⟨e,k⟩:=h.row;⟨e,Sl.hG k hg⟩,λt ht=>(h.xH t ht).hG hg,h.few,h.len,h.lens⟩
theorem TM.roots{w:World}{A:OA}{ts:List Tk}(h:TM w A ts)(c:Nat):Calls prog 28 #[.slice A ts.length c] w (nX (oX (k8 (ts.map Tk.p))) w):=by
 obtain⟨e,k⟩:=h.row;exact yz A c ts w k h.xH h.few ⟨h.len,h.lens⟩
theorem HM.reach{w:World}{A:OA}{l:List Rw}(h:HM w A l)(c:Nat){e:TypeId}{B:OA}(d:Nat){rs:List Int}(hr:Sl w e 1 B rs.length (zs rs))(hn:rs.length<=1000000000):Calls prog 35 #[.agg #[.slice A l.length c],.slice B rs.length d] w (nX (n8 (hY l) rs) w):=by
 obtain⟨e,k⟩:=h.os;obtain⟨E,bz⟩:=h.kZ;exact w5 A c l B d rs w k bz h.len h.zero h.wf hr hn
theorem xM(l:List Int):(oX l).length<=l.length:=qA _ (mK l).nodup λx hx=>((mK l).mem x).1 hx
theorem BG(h:List Ob)(ts:List i3):(la h ts).length<=h.length:=by
 have:=qA (la h ts) (l:=iG h) (ki _ _).nodup λx hx=>(((ki _ _).mem x).1 hx).ids
 simpa[iG]using this
noncomputable def sS (h:List Ob) (ts:List i3) (rb:Bool) (o:Ob):Bool:= !(decide (o.id∈la h ts) !=rb)
theorem vz{hA TA:OA}{hc tc:Nat}{l:List Rw}{ts:List Tk}{w:World}(z:HM w hA l)(O:TM w TA ts):
 Calls prog 73 #[.agg #[.slice hA l.length hc],.slice TA ts.length tc,.bool rb] w λe w'=>∃(A':OA) (c':Nat) (l':List Rw),e=.returned (.slice A' l'.length c')/\hY l'=(hY l).filter (sS (hY l) (ts.map Tk.p) rb)/\Os w' A' l'/\oa w' l'/\l'.length<=l.length/\Gr [] w w':=by
 refine ia λQ ak=>?_
 obtain⟨W,g,a2,aT,hg,J,I,hB,bz⟩:=v7 w 35 #[.slice hA l.length hc] 4 #[.bool rb];obtain⟨b,G⟩:=mn_ (la (hY l) (ts.map Tk.p));have bQ:=h_ (show b.length<=50000000/\b.Pairwise (· < ·) from⟨by rw[<-G];have:=BG (hY l) (ts.map Tk.p);have:=z.len;rw[h9]at*;omega,by rw[<-G];exact(ki _ _).lt⟩);have V:=h_ (show ∀o,sS (hY l) (ts.map Tk.p) rb o= !(decide (o.id∈b) !=rb) from λo=>by unfold sS;rw[G]);have aK:Hid (∀(w':World),Gr [] W w'->∀(B:OA) (d:Nat),Ls w' B (oX (k8 (ts.map Tk.p)))->Calls prog 35 #[.agg #[.slice hA l.length hc],.slice B (oX (k8 (ts.map Tk.p))).length d] w' (nX b w')):=h_ (λw' h B d hb=>by rw[<-G];exact(z.hG (I.trans h)).reach hc d hb (G_ (xM _) O.few));have bg:=h_ (λ(w':World)(h:Gr [] W w')=>(O.hG (I.trans h)).roots tc);generalize oX (k8 (ts.map Tk.p))=rs at*;clear G
 go_enter func73,ntmps73
 go_upto_region 1 with fail
 go_cut [7] (λp aX=>∃(x:Nat) (A:OA) (c:Nat),p=q_ x/\Bk aX x 27 #[.slice A b.length c]/\Ls aX A b/\Gr [] W aX)
 case first=>
  refine hQ (λw'=>w'.cell? (c_ g 0)=some (.slice hA l.length hc)) 6 k_ ?_;obtain⟨R,bW⟩:=nm_ W.drew
  have j:Gr [] W R:=by rw[bW];exact(F_ [] W).drew
  rw[<-bW];clear bW;have a8:=hB.hG j;have n:=j
  refine nt (a8.f_ 0) λC=>?_
  refine iP 0 C ?_;refine iP 1 C ?_;refine wI 2 4 (λK H=>?_) (λK H=>?_)
  .go_simp
   go_at_call 28
   refine(bg.out _ n).mono ?_;unfold nX;rintro e w2⟨av,ai,rfl,ca, -,J⟩;have a:=n.trans J;have q:=a8.hG J
   refine h5 H (q.f_ 0) λC=>?_
   clear H K;refine wI 3 4 (λK H=>?_) (λK H=>?_)
   .go_simp
    go_at_call 35
    refine(aK.out _ a av ai ca).mono ?_;unfold nX;rintro e ae⟨aG,aC,rfl,k, -,S⟩;have cy:=a.trans S;have bu:=q.hG S
    refine h5 H (bu.f_ 0) λC=>?_
    clear H K
    refine h4 4 λK H=>?_
    go_simp;obtain⟨T,x,dz,hx,Z,s⟩:=box1 ae 27 #[n_]
    refine h5 H ((bu.hG ((F_ [] ae).alloc _)).f_ 0) λC=>?_
    clear H K;have aE:g≠x:=ov bu.lt;have az:W.heap.size<=x:=ov cy.size;have t:=cy.trans Z;have bK:=bu.hG Z;have bN:=Sl.hG k Z;rw[dz,hx]at*
    refine h4 5 λK H=>?_
    have aQ:=s.f_ 0;have br:=s.hH 0;go_simp;have M:Gr [x] T (T.setCell (c_ x 0) (.slice aG b.length aC)):=(F_ [x] T).setCell (p:=c_ x 0) (.inl s_) _
    refine h5 H ((bK.gr M (by rw[I_];exact aE)).f_ 0) λC=>?_
    clear H K;refine hN k_ ?_ _;go_wp2;go_meet;exact⟨x,aG,aC,rfl,by simpa using s.hW 0 (.slice aG b.length aC),Sl.iu bN s d_ M,t.hK M (λy hy=>.inr (by rw[I_]at hy;omega))⟩
   .go_simp;obtain⟨T,x,dz,hx,Z,s⟩:=box1 w2 27 #[n_]
    refine h5 H ((q.hG ((F_ [] w2).alloc _)).f_ 0) λC=>?_
    clear H K;have aE:g≠x:=ov q.lt;have az:W.heap.size<=x:=ov a.size;have t:=a.trans Z;have bK:=q.hG Z;have bN:Ls T av _:=Sl.hG ca Z;rw[dz,hx]at*
    refine h4 3 λK H=>?_
    go_simp
    go_at_call 35
    refine(aK.out _ t av ai bN).mono ?_;unfold nX;rintro e Y⟨aG,aC,rfl,k, -,S⟩;have bT:=t.trans S;have b4:=bK.hG S;have m:=s.hG S;exact HV
  .go_simp;obtain⟨T,x,dz,hx,Z,s⟩:=box1 R 27 #[n_]
   refine h5 H ((a8.hG ((F_ [] R).alloc _)).f_ 0) λC=>?_
   clear H K;have aE:g≠x:=ov a8.lt;have az:W.heap.size<=x:=ov n.size;have t:=n.trans Z;have bK:=a8.hG Z;rw[dz,hx]at*
   refine h4 2 λK H=>?_
   go_simp
   go_at_call 28
   refine(bg.out _ t).mono ?_;unfold nX;rintro e w2⟨av,ai,rfl,ca, -,J⟩;have a:=t.trans J;have q:=bK.hG J;have ag:=s.hG J
   refine h5 H (q.f_ 0) λC=>?_
   clear H K
   refine h4 3 λK H=>?_
   go_simp
   go_at_call 35
   refine(aK.out _ a av ai ca).mono ?_;unfold nX;rintro e Y⟨aG,aC,rfl,k, -,S⟩;have bT:=a.trans S;have b4:=q.hG S;have m:=ag.hG S;exact HV
 case rest=>
  clear bg aK;obtain⟨x,A,c,rfl,a8,hl,F⟩:=hcut;obtain⟨w1,cJ⟩:=nm_ wc;rw[<-cJ]at a8 hl F |-;clear cJ;have j:=I.trans F;have u:=z.hG j;obtain⟨_,aB⟩:=u.os;obtain⟨_,aq⟩:=u.kZ;have E:=hB.hG F;have ad:=bz.hG F;have U:=E.f_ 0;have HD:=h_ (vQ hA hc l w1 aB aq (ov z.len));have aD:=z.len;clear aB aq u E hB bz
  go_wp2_with fail
  go_at_call 111
  refine HD.out.mono ?_;rintro e w2⟨av,ai,l2,rfl,i,X,aw,N,J⟩;have D:=h_ i;have a:=j.trans J;have ct:=a8.hG J;have bU:=ad.hG J;have ca:=Sl.hG hl J
  have aH:l2.length=l.length:=by have:=ED List.length i;rwa [h9,h9]at this
  rcases Fd l.length with h0|h0
  .have hl0:l=[]:=EP h0;subst hl0;have aW:=h_ (vR av ai (.func (.func 112) #[] #[q_ x,q_ a2]) w2);clear i aw
   go_wp2_with (first|(refine tW (CJ _ _) ?_)|go_at_call 110;refine aW.out.mono ?_;rintro e ae⟨rfl,rfl⟩)
   rw[ak.out];exact⟨av,ai,[],rfl,by simp[hY],⟨rfl,λh=>EK h (Nat.lt_irrefl 0)⟩,λr hr=>(by cases hr),H_ _,a⟩
  .obtain⟨p,rfl,ao,hP⟩:=aw h0;have v:=BS ct bU ca bQ.out.2 (ov bQ.out.1) hP;have af:=h_ (vS v hP aH o_ X);clear i aw v
   go_wp2_with (first|(refine tW (CJ _ _) ?_)|go_at_call 110;refine af.out.mono ?_;rintro e ae⟨du,rfl,k,ah,S⟩;have P:=h_ k;clear k)
   rw[ak.out]
   have L:du.Sublist l2:=by rw[P.out];exact List.filter_sublist
   refine⟨j_ p,ai,du,rfl,?_,ah,λr hr=>?_,ov L.length_le,a.hK S (λy hy=>.inr (by rw[I_]at hy;have:=j.size;omega))⟩
   .rw[show(hY l).filter (sS (hY l) (ts.map Tk.p) rb)=(hY l).filter (λo=> !(decide (o.id∈b) !=rb)) from List.filter_congr λo _=>V.out o,<-D.out,P.out];unfold hY;rw[List.filter_map]
    rfl
   .have f:=N r (L.subset hr);exact⟨hP.vs S f.1,f.2⟩
theorem FL.jX{t:i3}(h:FL t.nw)(c:Cl):FL (jX t c).nw:=by
 unfold Go.Proofs.YtenbhdilndfaeaaGreat.jX;split
 .exact h
 .intro o ho;obtain⟨k,hk,e⟩:=F3 ho;have aj:k<t.nw.length:=zu hk;have hm:=h _ (N_ aj);rw[Fy]at e;split at e
  .rw[<-e];unfold ug;dsimp only;split
   .rw[ER];exact hm
   .exact hm
  .rw[<-e];exact hm
theorem FL.jw{t t':i3}(h:FL t.nw){id f:Int}(hs:jw t view id f=some t'):FL t'.nw:=by
 unfold Go.Proofs.YtenbhdilndfaeaaGreat.jw at hs;split at hs
 .injection hs with hs;subst hs;exact h
 .split at hs
  .cases hs
  .split at hs
   .cases hs
   .injection hs with hs;subst hs;refine FL.jX ?_ _;exact h
theorem Be{t t':i3}{d:Dl}(hs:take t d=some t'):t'.nw=t.nw:=by
 unfold take at hs;split at hs
 .cases hs
 .split at hs
  .injection hs with hs;subst hs
   rfl
  .split at hs
   .cases hs
   .injection hs with hs;subst hs
    rfl
theorem sR:∀(l:List Dl) (t:i3) (rs ws:List Cl),(jM t rs ws l).1.nw=t.nw
 |[],_,_,_=>rfl
 |d::l,t,rs,ws=>by
  unfold jM
  cases ht:take t d with
  |none=>exact sR l t rs ws
  |some t'=>exact(sR l t' _ _).trans (Be ht)
theorem FL.j1{view:List Ob}:∀(l:List Cl) {t t':i3},FL t.nw->j1 view t l=some t'->FL t'.nw
 |[],t,t',h,hs=>by injection hs with hs;subst hs;exact h
 |c::l,t,t',h,hs=>by
  unfold Go.Proofs.YtenbhdilndfaeaaGreat.j1 at hs
  cases hr:p8 view t c with
  |none=>rw[hr]at hs;cases hs
  |some t1=>
   rw[hr]at hs;refine FL.j1 l ?_ hs;unfold p8 at hr;split at hr
   .injection hr with hr;subst hr;exact h
   .split at hr
    .exact h.jw hr
    .injection hr with hr;subst hr;exact h
theorem FL.km{view:List Ob}:∀(l:List Cl) {t t':i3},FL t.nw->km view t l=some t'->FL t'.nw
 |[],t,t',h,hs=>by injection hs with hs;subst hs;exact h
 |c::l,t,t',h,hs=>by
  unfold Go.Proofs.YtenbhdilndfaeaaGreat.km at hs
  cases hr:rQ view t c with
  |none=>rw[hr]at hs;cases hs
  |some t1=>
   rw[hr]at hs;refine FL.km l ?_ hs;unfold rQ at hr
   cases am:Go.Proofs.YtenbhdilndfaeaaGreat.jw t view c.id c.f with
   |none=>rw[am]at hr;cases hr
   |some af=>rw[am]at hr;injection hr with hr;subst hr;exact(h.jw am).jX _
theorem FL.app{a b:List Ob}(h:FL a)(k:FL b):FL (a++b):=λo ho=>(X_.1 ho).elim (h o) (k o)
theorem FL.record{t t':i3}{e:pX}(h:FL t.nw)(he:FL e.nw)(hs:record t view e=some t'):FL t'.nw:=by
 unfold Go.Proofs.YtenbhdilndfaeaaGreat.record at hs;dsimp only at hs;have hd:=sR e.ds t e.rs e.ws;generalize jM t e.rs e.ws e.ds=a at*
 cases h1:Go.Proofs.YtenbhdilndfaeaaGreat.j1 view a.1 a.2.1 with
 |none=>rw[h1]at hs;cases hs
 |some t1=>
  rw[h1]at hs;dsimp only at hs;have bV:=FL.j1 _ (by rw[hd];exact h) h1
  cases h2:Go.Proofs.YtenbhdilndfaeaaGreat.km view {t1 with nw:=t1.nw++e.nw} a.2.2 with
  |none=>rw[h2]at hs;cases hs
  |some af=>rw[h2]at hs;injection hs with hs;subst hs;show FL af.nw;refine FL.km _ ?_ h2;exact bV.app he
theorem FL.step{c:List In}{hI hF:Int}{t:i3}(hv:ic c hI hF=true)(h:FL t.nw):FL (jb c hI hF d t view).nw:=by
 have he:=Bx hv t.pc t.r (jr t view) ((t.run+1)*1048576+t.nw.length);unfold jb;dsimp only;generalize lm c hI hF t.pc t.r (jr t view) ((t.run+1)*1048576+t.nw.length)=e at*;split
 .exact h
 split
 .exact h
 cases hr:Go.Proofs.YtenbhdilndfaeaaGreat.record t view e with
 |none=>exact h
 |some x=>
  have k:=h.record he hr;dsimp only;split
  .exact k
  split<;>exact k
theorem y7(l:List In)(hI hF hS run:Int)(ik:Bool):FL (jo l hI hF hS run ik).1.nw:=by
 rw[uq];intro o ho
 cases ho
theorem wu.fl{l:List In}{hI hF:Int}{h:List Ob}{run:Int}{n:Nat}{ts:List i3}(hv:ic l hI hF=true)(O:wu l hI hF d h run n ts):∀t∈ts,FL t.nw:=by
 induction O with
 |hS ts hl hb=>
  intro t ht;obtain⟨k,hk,rfl⟩:=F3 ht;obtain⟨x,ik,_,e⟩:=hb k hk;rw[e];exact y7 _ _ _ _ _ _
 |step k hk h1 h2 Z=>
  intro t ht
  rcases EU ht with ht|rfl
  .exact Z t ht
  .exact(Z _ (N_ hk)).step hv
theorem qf(l:List Cl):(k9 l).length<=2*l.length:=by
 induction l with
 |nil=>simp[k9]
 |cons c l Z=>
  unfold k9 at Z |-;simp only[E0,J_,Z_]
  have:(p7 c.v).length<=1:=by unfold p7;split<;>simp
  omega
theorem sP:∀{h:List Ob},FL h->(m6 h).length<=70*h.length
 |[],_=>by simp[m6]
 |o::h,hf=>by
  have Z:=sP (h:=h) λx hx=>hf x (EQ _ hx)
  have h1:=hf o E6
  have h2:(pW o.fs).length<=o.fs.length:=by unfold pW;rw[E5];exact Fl _ _
  unfold m6 at Z |-;simp only[E0,J_,Z_];omega
theorem wU{t:i3}(hf:FL t.nw)(hs:t.sm 500000):(nv t).length<=38500000:=by
 have h1:=qf t.gs;have h2:=qf t.rs;have h3:=qf t.ws;have au:=sP hf;have a1:=hs.gs;have G:=hs.rs;have a3:=hs.ws;have a4:=hs.nw;have a5:=hs.ds;unfold nv;simp only[J_,E5];omega
theorem yy:∀{ts:List i3} {n:Nat},(∀t∈ts,(nv t).length<=n)->(k8 ts).length<=1+ts.length*n:=by
 intro ts n h;unfold k8;rw[Z_]
 suffices (ts.flatMap nv).length<=ts.length*n by omega
 induction ts with
 |nil=>simp
 |cons t ts Z=>
  have:=Z λx hx=>h x (EQ _ hx)
  have:=h t E6
  simp only[E0,J_,Z_,FJ];omega
theorem xB.ne{run n:Int}(h:xB run n):n≠0:=by
 rcases h with h|h|⟨r,j,h0,_,h1,_,h2⟩<;>omega
theorem Md.hm{m:Md}{w:World}(hi:rm w m)(bw:BX m):HM w m.s.h.A m.s.h.l:=by
 obtain⟨k,run,hk,hc,_⟩:=bw.cm;have hb:=(hc.cb bw.val).1.h;have e:m.s.p.h=hY m.s.h.l:=rfl;have a:=(hc.ci bw.val (kl bw.val).2.1).2;have hg:=hc.gX Db bw.val o_;rw[e]at hb a hg;rw[h9]at hb;refine⟨⟨_,hi.s.h.os.e⟩,⟨_,hi.s.h.kZ.e⟩,o_,λq=>(a.old 0 q).ne rfl,λx hx=>?_⟩;obtain⟨o,ho,rfl⟩:=EM.1 hx;obtain⟨h0,h1⟩:=hg.ids o ho;exact WalkArith.wf_i64 o_
theorem Md.tm{m:Md}{w:World}(hi:rm w m)(bw:BX m):TM w m.tA m.ts:=by
 obtain⟨k,run,hk,hc,cH⟩:=bw.cm;have hl:=(kl bw.val).2.1
 have B:m.ts.length<=16/\∀t∈m.ts,FL t.p.nw/\t.p.sm 500000:=by
  rcases cH with⟨_,e,_⟩|⟨_,_,n,_,O⟩
  .rw[e];exact⟨O_ _,λt ht=>by cases ht⟩
  .refine⟨by have:=O.len;rwa [E5]at this,λt ht=>?_⟩;have hm:=GD (f:=Tk.p) ht;exact⟨O.fl bw.val _ hm,(O.tf bw.val hl _ hm).1.sm⟩
 have hr:=yy (ts:=m.ts.map Tk.p) (n:=38500000) λt ht=>by
  obtain⟨u,hu,rfl⟩:=EM.1 ht;exact wU (B.2 u hu).1 (B.2 u hu).2
 rw[E5]at hr;refine⟨⟨_,hi.ts.row⟩,λt ht=>(hi.ts.xH t ht).e,ov B.1,by have:=B.1;omega,λt ht=>?_⟩;have h:=(B.2 t ht).2;have e:t.p.nw.length=t.nw.l.length:=h9 _;have a1:t.gs.l.length<=500000:=h.gs;have G:t.rs.l.length<=500000:=h.rs;have a3:t.ws.l.length<=500000:=h.ws;have a4:t.ds.l.length<=500000:=h.ds;have a5:=h.nw;omega
end Go.Proofs.YtenbhdilndfaeaaGreat
