import Derived.Test.YtenbhdilndfaeaaGreatM26
set_option maxRecDepth 100000
set_option maxHeartbeats 0
set_option linter.all false
namespace Go.Proofs.YtenbhdilndfaeaaGreat
open Go.RowKit Go.Proofs.Tryz
variable{l:List ByteArray}
def Kf{G:Prop} (h:G:=by
 clear cg
 go_wp2_with (go_at_call 172;refine bE.out.mono ?_;rintro e ax⟨rfl,ay⟩)
 go_roundw
 case rel=>exact⟨k+1,X,gn,(l.trans co).trans ay⟩
 case measure=>exact mz):G:=h
structure CG(q:Nat->Prop)(w:World)(PA:OA)(fs:List FT)(Ns:List Nat):Prop where
 pg:PG ig q w PA fs Ns
 pc:PC w PA fs
 ix:∀(k:Nat) (h:k<fs.length),tS fs[k].name fs 0=k
 p0:∀h:0<fs.length,fs[0].ps=[]
 nd:∀f∈fs,f.ps.Nodup
 vs:∀(k:Nat) (h:k<fs.length) (h2:k<Ns.length),∃V:List ByteArray,V.length<=1000/\2<=V.length/\V.Nodup/\lX V 5 Ns[k] fs[k].bs/\∀vs:List ByteArray,nT vs fs[k].bs->(∀x∈fs[k].ps,x∈vs)->∀x∈V,x∈vs
def CG.hF{q:Nat->Prop}{w w':World}{a:OA}{fs:List FT}{Ns:List Nat}(h:CG q w a fs Ns)(b:I [] w w'):CG q w' a fs Ns:=⟨h.pg.hF b,h.pc.hF b,h.ix,h.p0,h.nd,h.vs⟩
def sU(h:l.Nodup){k:Nat}(e:k<l.length):hasB (l.take k) l[k]=false:=by
 cases a:hasB (l.take k) l[k]with
 |false=>rfl
 |true=>
  have d:=qQ.1 a;have b:=(Hu k l).symm;rw[b,Hv]at h;have c:l[k]∈l.drop k:=List.mem_iff_getElem.2 ⟨0,p_,J⟩;exact FU rfl (h.2.2 _ d _ c)
def Bs.take{w:World}{A:OA}(h:Bs w A l)(k:Nat)(o:k<=l.length):Bs w A (l.take k):=by
 refine⟨J,λi=>?_⟩;obtain⟨b,m,c,d,e,f,g⟩:=h.2 (by simp at i;omega);refine⟨b,m,c,d,e,f,λj n a=>g j n ?_⟩;rw[List.map_take,Gv]at a;split at a
 .exact a
 .cases a
def sj:ig.length=9:=rfl
def wl(q:Nat->Prop)(i:OA)(c:Nat)(fs:List FT)(Ns:List Nat)(w:World)(ae:CG q w i fs Ns):
 Calls prog 134 #[.agg #[.slice i 3 c]] w (ve (.tuple #[Y 0,Y 0]) w):=by
 refine h5 λag aq=>?_
 obtain⟨M,p,aW,hx,hg,r⟩:=box1 w 150 #[.slice i 3 c];have h:M.cell? (Z p 0)=some (.slice i 3 c):=r.f_ 0;have b:=U (ae.hF hg);clear ae
 go_enter func134,ntmps134
 go_wp2_with fail
 go_at_call 169
 refine(w7 Do q i c fs Ns M b.out.pg).mono ?_;rintro e w2⟨rfl,J⟩;have L:w2.cell? (Z p 0)=some (.slice i 3 c):=(r.hF J).f_ 0;clear h;go_wp2;have bU:=U aW;clear L aW hx
 go_loopw [19] (λf w'=>∃k:Nat,k<=3/\f=Y k/\I [] M w') (λf _=>3-(intOf f).toNat)
 case atStart=>exact⟨0,X,gn,J⟩
 case round=>
  obtain⟨k,hk,rfl,F⟩:=hrel;clear J
  by_cases af:k<3
  .have d:k<fs.length:=ov b.out.pg.len;have N:k<Ns.length:=ov b.out.pg.nl;have v:=b.out.hF F;obtain⟨n,s,hA,z0,aR,aZ⟩:=BZ.at_ v.pg.hfs d;subst hA;have al:=v.pg.rd _ (O_ d);obtain⟨_,S,b6⟩:=b.out.pg.nm _ (O_ d);have z:=b.out.pg.sg k d N;have x:=b.out.vs k d N;have G:=b.out.ix k d;have an:=b.out.nd _ (O_ d)
   have eg:Ns[k]<=64:=by have:=pm Ns k N;have:=b.out.pg.sum;omega
   have Q:k=0->fs[k].ps=[]:=λe=>by subst e;exact b.out.p0 _
   obtain⟨a,hf⟩:=nm_ (fs[k]);obtain⟨ao,ap⟩:=nm_ (Ns[k]);rw[<-hf]at z0 aR aZ al S b6 z x G an Q;rw[<-ap]at z x eg;have t:=U al;have ce:=U S;have c9:=U z;have cG:=U x;have aw:=U G;have MY:=U an;have da:=U Q;have E:=U v;clear hf ap al S z x G an Q v
   have jr:=λaI ar=>by
    have h1:=nM (some (Z n s)) 3 c fs a.name aI E.out.pg.len (E.out.hF ar).pg.hfs X;rw[aw.out]at h1;exact h1
   have av:=U jr;clear jr;obtain⟨am,bt,b9,hg1,MX,m⟩:=box1 wr 213 #[.string a.name,.slice a.AP a.ps.length a.cP,.slice a.A a.bs.length a.c];obtain⟨h,L,P⟩:=m.nO;have hy:=(r.hF F).f_ 0;have cj:wr.cell? (Z p 0)=some (.slice (some (Z n s)) 3 c):=hy;clear hy;have et:decide ((k:Int)<3)=true:=p_
   go_upto_region 8 with fail
   have az:=F.trans MX;clear h L P cj z0 aR aZ
   go_loopw [27] (λf w'=>∃j:Nat,j<=a.ps.length/\f=Y j/\I [] am w') (λf _=>a.ps.length-(intOf f).toNat)
   case atStart=>exact⟨0,X,gn,H _ _⟩
   case round=>
    obtain⟨j,hj,rfl,A⟩:=hrel;have g:=MX.trans A;have l:=az.trans A;obtain⟨aA,C⟩:=mn_ a.ps.length;have aE:=U C;have aF:aA<=2:=X;have h:wr.cell? (Z p 0)=some (.slice (some (Z n s)) 3 c):=(r.hF l).f_ 0;obtain⟨aV,B,aC⟩:=(m.hF A).nO
    by_cases R:j<a.ps.length
    .have aJ:=(t.out.hF g).hp;obtain⟨b2,ak,u,hc⟩:=Sl.f_ aJ X;have P:=hc j (.string a.ps[j]) (by rw[Gf,K_ R];rfl);have aK:=sU MY.out R;have y:=aJ.take j X;have V:(a.ps.take j).length=j:=p_;generalize a.ps[j]=aM at P aK;have aL:j<=a.cP:=ov t.out.vj;have aN:(j:Int)<=a.cP:=X;have aO:=U (av.out wr g);have bn:=U y;have aP:=U V;have MZ:=U aK;have aQ:=U u;rw[u]at y;have bS:=U (λo(MS:I [] wr o)=>oC (some (Z b2 ak)) j a.cP (a.ps.take j) aM o V (Sl.hF y MS) X);rw[C]at B R |-;rw[u]at B |-;clear hc C u y V aK aJ
     go_wp2_with fail
     go_at_call 170
     refine aO.out.mono ?_;rintro e O⟨rfl,MS⟩;have W:=bS.out O MS;rw[MZ.out]at W;have aS:=U W;obtain⟨v0,D,T⟩:=(m.hF (A.trans MS)).nO;rw[aE.out,aQ.out]at D;clear W aV B aC h
     go_wp2_with (go_at_call 171;refine aS.out.mono ?_;rintro e K⟨rfl,rfl⟩)
     exact Mf
    .subst C;have aO:=U (av.out wr g);have eb:=U (λo(MS:I [] wr o)=>sN ig (by rw[sj];decide) 5 ao a q o ((t.out.hF g).hF MS) c9.out X ce.out X)
     go_wp2_with fail
     go_at_call 170
     refine aO.out.mono ?_;rintro e O⟨rfl,MS⟩;obtain⟨v0,D,T⟩:=(m.hF (A.trans MS)).nO;clear aV B aC h
     go_wp2_with fail
     go_at_call 135
     refine(eb.out O MS).mono ?_;rintro e K⟨W,c5,u,rfl,b5,ez,eG,eC,eA,aj⟩;have co:=MS.trans aj;clear v0 D T;obtain⟨v0,D,T⟩:=(m.hF (A.trans co)).nO
     have ai:=by have y:=lr u ig ez eG;rw[sj]at y;exact y
     obtain⟨aT,b0,_,_,d3,eh⟩:=cG.out;have bE:=U (x3 b0 5 ao (some (Z n s)) c fs W c5 u a.A _ a.c a.bs q K X rfl d3 (eh u eA eC) X b5 ((E.out.hF g).hF co).pc ((t.out.hF g).hF co).hb ((t.out.hF g).hF co).hs);have aX:K.cell? (Z p 0)=some (.slice (some (Z n s)) 3 c):=(r.hF (l.trans co)).f_ 0
     by_cases cg:k=0
     .have bZ:a.ps.length=0:=by rw[da.out cg];rfl
      have V:((k:Int)==0)=true:=by simp[cg]
      exact Kf
     .have V:((k:Int)==0)=false:=by simp[cg]
      exact Kf
  .exact Mz
