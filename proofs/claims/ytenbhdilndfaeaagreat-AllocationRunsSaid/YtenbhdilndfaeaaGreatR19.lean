import Derived.Test.YtenbhdilndfaeaaGreatR18
set_option maxRecDepth 100000
set_option maxHeartbeats 0
set_option linter.all false
namespace Go.Proofs.YtenbhdilndfaeaaGreat
open Go.RowKit Go.Proofs.Tryz
variable{l:List ByteArray}
def J0{G:Prop} (h:G:=by
 go_wp2_with (go_at_call 172;refine bN.out.mono ?_;rintro e ay⟨rfl,az⟩)
 go_roundw
 case rel=>exact⟨k+1,X,gn,(i.trans b7).trans az⟩
 case measure=>exact mz):G:=h
structure CG(q:Nat->Prop)(w:World)(PA:OA)(fs:List FT)(Ns:List Nat):Prop where
 pg:PG ia q w PA fs Ns
 pc:PC w PA fs
 ix:∀(k:Nat) (h:k<fs.length),ul fs[k].name fs 0=k
 p0:∀h:0<fs.length,fs[0].ps=[]
 nd:∀f∈fs,f.ps.Nodup
 vs:∀(k:Nat) (h:k<fs.length) (h2:k<Ns.length),∃V:List ByteArray,V.length<=1000/\2<=V.length/\V.Nodup/\l3 V 5 Ns[k] fs[k].bs/\∀vs:List ByteArray,nW vs fs[k].bs->(∀x∈fs[k].ps,x∈vs)->∀x∈V,x∈vs
def CG.g_{q:Nat->Prop}{w w':World}{a:OA}{fs:List FT}{Ns:List Nat}(h:CG q w a fs Ns)(b:J [] w w'):CG q w' a fs Ns:=⟨h.pg.g_ b,h.pc.g_ b,h.ix,h.p0,h.nd,h.vs⟩
def tB(h:l.Nodup){k:Nat}(e:k<l.length):hasB (l.take k) l[k]=false:=by
 cases d:hasB (l.take k) l[k]with
 |false=>rfl
 |true=>
  have a:=rp.1 d;have b:=(Gk k l).symm;rw[b,Gs]at h;have c:l[k]∈l.drop k:=List.mem_iff_getElem.2 ⟨0,p_,s_⟩;exact U_ rfl (h.2.2 _ a _ c)
def Bs.take{w:World}{A:OA}(h:Bs w A l)(k:Nat)(o:k<=l.length):Bs w A (l.take k):=by
 refine⟨s_,λi=>?_⟩;obtain⟨b,m,c,d,e,f,g⟩:=h.2 (by simp at i;omega);refine⟨b,m,c,d,e,f,λj n a=>g j n ?_⟩;rw[List.map_take,Gv]at a;split at a
 .exact a
 .cases a
def sU:ia.length=9:=rfl
def wS(q:Nat->Prop)(h:OA)(c:Nat)(fs:List FT)(Ns:List Nat)(w:World)(ah:CG q w h fs Ns):
 Calls prog 134 #[.agg #[.slice h 3 c]] w (vJ (.tuple #[Y 0,Y 0]) w):=by
 refine ig λal aI=>?_
 obtain⟨K,p,be,hx,hg,r⟩:=box1 w 150 #[.slice h 3 c];have u:K.cell? (Z p 0)=some (.slice h 3 c):=r.f_ 0;have b:=O (ah.g_ hg)
 go_enter func134,ntmps134
 go_wp2_with fail
 go_at_call 169
 refine(xK Dg q h c fs Ns K b.out.pg).mono ?_;rintro e w2⟨rfl,MS⟩;have ai:w2.cell? (Z p 0)=some (.slice h 3 c):=(r.g_ MS).f_ 0;go_wp2;have bl:=O be
 go_loopw [19] (λf w'=>∃k:Nat,k<=3/\f=Y k/\J [] K w') (λf _=>3-(intOf f).toNat)
 case atStart=>exact⟨0,X,gn,MS⟩
 case round=>
  obtain⟨k,hk,rfl,F⟩:=hrel
  by_cases aj:k<3
  .have d:k<fs.length:=ov b.out.pg.len;have R:k<Ns.length:=ov b.out.pg.nl;have C:=b.out.g_ F;obtain⟨n,s,an,z0,aR,aU⟩:=B2.at_ C.pg.hfs d;subst an;have aq:=C.pg.rd _ (M_ d);obtain⟨_,Q,bR⟩:=b.out.pg.nm _ (M_ d);have x:=b.out.pg.sg k d R;have y:=b.out.vs k d R;have E:=b.out.ix k d;have G:=b.out.nd _ (M_ d)
   have d2:Ns[k]<=64:=by have:=pF Ns k R;have:=b.out.pg.sum;omega
   have N:k=0->fs[k].ps=[]:=λe=>by subst e;exact b.out.p0 _
   obtain⟨a,hf⟩:=nm_ (fs[k]);obtain⟨ar,av⟩:=nm_ (Ns[k]);rw[<-hf]at z0 aR aU aq Q bR x y E G N;rw[<-av]at x y d2;have t:=O aq;have bA:=O Q;have cU:=O x;have ck:=O y;have ae:=O E;have aw:=O G;have cV:=O N;have U:=O C;clear hf av aq Q x y E G N C
   have jn:=λaK ax=>by
    have h1:=nO (some (Z n s)) 3 c fs a.name aK U.out.pg.len (U.out.g_ ax).pg.hfs X;rw[ae.out]at h1;exact h1
   have aA:=O jn;clear jn;obtain⟨aC,a2,bZ,hg1,ag,m⟩:=box1 wr 213 #[.string a.name,.slice a.AP a.ps.length a.cP,.slice a.A a.bs.length a.c];obtain⟨u,ai,L⟩:=m.nQ;have hy:=(r.g_ F).f_ 0;have bY:wr.cell? (Z p 0)=some (.slice (some (Z n s)) 3 c):=hy;clear hy;have ea:decide ((k:Int)<3)=true:=p_
   go_upto_region 8 with fail
   have MR:=F.trans ag;clear u ai L bY z0 aR aU
   go_loopw [27] (λf w'=>∃j:Nat,j<=a.ps.length/\f=Y j/\J [] aC w') (λf _=>a.ps.length-(intOf f).toNat)
   case atStart=>exact⟨0,X,gn,H _ _⟩
   case round=>
    obtain⟨j,hj,rfl,A⟩:=hrel;have g:=ag.trans A;have i:=MR.trans A;obtain⟨aD,B⟩:=mn_ a.ps.length;have aH:=O B;have aJ:aD<=2:=X;have u:wr.cell? (Z p 0)=some (.slice (some (Z n s)) 3 c):=(r.g_ i).f_ 0;obtain⟨aT,P,aL⟩:=(m.g_ A).nQ
    by_cases D:j<a.ps.length
    .have l:=(t.out.g_ g).hp;obtain⟨b2,am,v,hc⟩:=Sl.f_ l X;have L:=hc j (.string a.ps[j]) (by rw[F4,L_ D];rfl);have T:=tB aw.out D;have z:=l.take j X;have S:(a.ps.take j).length=j:=p_;generalize a.ps[j]=aM at L T;have b0:j<=a.cP:=ov t.out.s4;have ap:(j:Int)<=a.cP:=X;have V:=O (aA.out wr g);have bK:=O z;have aN:=O S;have MT:=O T;have aO:=O v;rw[v]at z;have bO:=O (λo(af:J [] wr o)=>oL (some (Z b2 am)) j a.cP (a.ps.take j) aM o S (Sl.g_ z af) X);rw[B]at P D |-;rw[v]at P |-;clear hc B v z S T l
     go_wp2_with fail
     go_at_call 170
     refine V.out.mono ?_;rintro e I⟨rfl,af⟩;have W:=bO.out I af;rw[MT.out]at W;have aP:=O W;obtain⟨v0,v1,ao⟩:=(m.g_ (A.trans af)).nQ;rw[aH.out,aO.out]at v1;clear W aT P aL u
     go_wp2_with (go_at_call 171;refine aP.out.mono ?_;rintro e M⟨rfl,rfl⟩)
     exact L2
    .subst B;have V:=O (aA.out wr g);have dZ:=O (λo(af:J [] wr o)=>tq ia (by rw[sU];decide) 5 ar a q o ((t.out.g_ g).g_ af) cU.out X bA.out X)
     go_wp2_with fail
     go_at_call 170
     refine V.out.mono ?_;rintro e I⟨rfl,af⟩;obtain⟨v0,v1,ao⟩:=(m.g_ (A.trans af)).nQ
     go_wp2_with fail
     go_at_call 135
     refine(dZ.out I af).mono ?_;rintro e M⟨T,c5,z,rfl,bU,ei,ev,ep,ej,W⟩;have b7:=af.trans W;obtain⟨v0,v1,ao⟩:=(m.g_ (A.trans b7)).nQ
     have aQ:=by have S:=lx z ia ei ev;rw[sU]at S;exact S
     obtain⟨aS,bp,_,_,dQ,d3⟩:=ck.out;have bN:=O (yy bp 5 ar (some (Z n s)) c fs T c5 z a.A _ a.c a.bs q M X rfl dQ (d3 z ej ep) X bU ((U.out.g_ g).g_ b7).pc ((t.out.g_ g).g_ b7).hb ((t.out.g_ g).g_ b7).hs);have bf:M.cell? (Z p 0)=some (.slice (some (Z n s)) 3 c):=(r.g_ (i.trans b7)).f_ 0
     by_cases v:k=0
     .have bL:a.ps.length=0:=by rw[cV.out v];rfl
      have bh:((k:Int)==0)=true:=by simp[v]
      exact J0
     .have bh:((k:Int)==0)=false:=by simp[v]
      exact J0
  .exact Mt
