import Derived.Test.YtenbhdilndfaeaaGreatM21
set_option maxRecDepth 100000
set_option maxHeartbeats 0
set_option linter.all false
namespace Go.Proofs.YtenbhdilndfaeaaGreat
open Go.RowKit Go.Proofs.Tryz
variable{l:List ByteArray}
theorem HX{G:Prop} (h:G:=by
 clear b8
 go_wp2_with (go_at_call 172;refine b3.out.mono ?_;rintro e aF⟨rfl,aC⟩)
 go_roundw
 case rel=>exact⟨k+1,by omega,by go_num,(i.trans ca).trans aC⟩
 case measure=>simp[intOf];omega):G:=h
structure CG(q:Nat->Prop)(w:World)(PA:Option Addr)(fs:List FT)(Ns:List Nat):Prop where
 pg:PG h6 q w PA fs Ns
 pc:PC w PA fs
 ix:∀(k:Nat) (h:k<fs.length),tk fs[k].name fs 0=k
 p0:∀h:0<fs.length,fs[0].ps=[]
 nd:∀f∈fs,f.ps.Nodup
 vs:∀(k:Nat) (h:k<fs.length) (h2:k<Ns.length),∃V:List ByteArray,V.length<=1000/\2<=V.length/\V.Nodup/\lJ V 5 Ns[k] fs[k].bs/\∀vs:List ByteArray,nF vs fs[k].bs->(∀x∈fs[k].ps,x∈vs)->∀x∈V,x∈vs
theorem CG.g_{q:Nat->Prop}{w w':World}{PA:Option Addr}{fs:List FT}{Ns:List Nat}(h:CG q w PA fs Ns)(hg:Gr [] w w'):CG q w' PA fs Ns:=⟨h.pg.g_ hg,h.pc.g_ hg,h.ix,h.p0,h.nd,h.vs⟩
theorem sv(h:l.Nodup){k:Nat}(hk:k<l.length):hasB (l.take k) l[k]=false:=by
 cases aB:hasB (l.take k) l[k]with
 |false=>rfl
 |true=>
  have Y:=qF.1 aB;have h2:=(List.take_append_drop k l).symm;rw[h2,Fj]at h;have h3:l[k]∈l.drop k:=List.mem_iff_getElem.2 ⟨0,by simp;omega,by simp⟩;exact D6 rfl (h.2.2 _ Y _ h3)
theorem Bs.take{w:World}{A:Option Addr}(h:Bs w A l)(k:Nat)(hk:k<=l.length):Bs w A (l.take k):=by
 refine⟨by simp,λhn=>?_⟩;obtain⟨b,off,cs,fz,h1,h2,h3⟩:=h.2 (by simp at hn;omega);refine⟨b,off,cs,fz,h1,h2,λj u hu=>h3 j u ?_⟩;rw[List.map_take,EL]at hu;split at hu
 .exact hu
 .cases hu
theorem rT:h6.length=9:=rfl
theorem vx(q:Nat->Prop)(PA:Option Addr)(c:Nat)(fs:List FT)(Ns:List Nat)(w:World)(D:CG q w PA fs Ns):
 Calls prog 134 #[.agg #[.slice PA 3 c]] w (uG (.tuple #[i_ 0,i_ 0]) w):=by
 refine hX λQ aD=>?_
 obtain⟨W,gx,aZ,I,hg,hB⟩:=box1 w 150 #[.slice PA 3 c];have Z:W.cell? (c_ gx 0)=some (.slice PA 3 c):=hB.f_ 0;have aW:=h_ (D.g_ hg);clear D
 go_enter func134,ntmps134
 go_wp2_with fail
 go_at_call 169
 refine(wm BO q PA c fs Ns W aW.out.pg).mono ?_;rintro e w2⟨rfl,ad⟩;have ah:w2.cell? (c_ gx 0)=some (.slice PA 3 c):=(hB.g_ ad).f_ 0;clear Z;go_wp2;have bl:=h_ aZ;clear ah aZ I
 go_loopw [19] (λar w'=>∃k:Nat,k<=3/\ar=i_ k/\Gr [] W w') (λar _=>3-(intOf ar).toNat)
 case atStart=>exact⟨0,by omega,by go_num,ad⟩
 case round=>
  obtain⟨k,hk,rfl,F⟩:=hrel;clear ad
  by_cases aj:k<3
  .have aH:k<fs.length:=by have:=aW.out.pg.len;omega
   have a7:k<Ns.length:=by have:=aW.out.pg.nl;omega
   have t:=aW.out.g_ F;obtain⟨b,off,U,z0,aS,aX⟩:=Au.at_ t.pg.hfs aH;subst U;have y:=t.pg.rd _ (J_ aH);obtain⟨_,bq,bX⟩:=aW.out.pg.nm _ (J_ aH);have bS:=aW.out.pg.sg k aH a7;have bI:=aW.out.vs k aH a7;have G:=aW.out.ix k aH;have J:=aW.out.nd _ (J_ aH)
   have d2:Ns[k]<=64:=by have:=o4 Ns k a7;have:=aW.out.pg.sum;omega
   have b4:k=0->fs[k].ps=[]:=λe=>by subst e;exact aW.out.p0 _
   obtain⟨f,hf⟩:=nm_ (fs[k]);obtain⟨M,z⟩:=nm_ (Ns[k]);rw[<-hf]at z0 aS aX y bq bX bS bI G J b4;rw[<-z]at bS bI d2;have r:=h_ y;have ai:=h_ bq;have cT:=h_ bS;have cv:=h_ bI;have ag:=h_ G;have L:=h_ J;have cY:=h_ b4;have o:=h_ t;clear hf z y bq bS bI G J b4 t
   have js:=λaJ S=>by
    have h1:=nt (some (c_ b off)) 3 c fs f.name aJ o.out.pg.len (o.out.g_ S).pg.hfs o_;rw[ag.out]at h1;exact h1
   have v:=h_ js;clear js;obtain⟨R,bt,b5,hg1,E,az⟩:=box1 wr 213 #[.string f.name,.slice f.AP f.ps.length f.cP,.slice f.A f.bs.length f.c];obtain⟨Z,ah,au⟩:=az.nz;have hy:=(hB.g_ F).f_ 0;have b0:wr.cell? (c_ gx 0)=some (.slice (some (c_ b off)) 3 c):=hy;clear hy
   have dj:decide ((k:Int)<3)=true:=by simp;omega
   go_upto_region 8 with fail
   have X:=F.trans E;clear Z ah au b0 z0 aS aX
   go_loopw [27] (λar w'=>∃j:Nat,j<=f.ps.length/\ar=i_ j/\Gr [] R w') (λar _=>f.ps.length-(intOf ar).toNat)
   case atStart=>exact⟨0,by omega,by go_num,D_ _ _⟩
   case round=>
    obtain⟨j,hj,rfl,A⟩:=hrel;have d:=E.trans A;have i:=X.trans A;obtain⟨n,hn⟩:=mn_ f.ps.length;have C:=h_ hn
    have Y:n<=2:=by omega
    have Z:wr.cell? (c_ gx 0)=some (.slice (some (c_ b off)) 3 c):=(hB.g_ i).f_ 0;obtain⟨aU,bn,P⟩:=(az.g_ A).nz
    by_cases B:j<f.ps.length
    .have l:=(r.out.g_ d).hp;obtain⟨b2,p,m,hc⟩:=Sl.f_ l o_;have au:=hc j (.string f.ps[j]) (by rw[Eq,K_ B];rfl);have g:=sv L.out B;have bN:=l.take j o_
     have c8:(f.ps.take j).length=j:=by simp;omega
     generalize f.ps[j]=x at au g
     have b6:j<=f.cP:=by have:=r.out.uK;omega
     have O:(j:Int)<=f.cP:=by omega
     have u:=h_ (v.out wr d);have bL:=h_ bN;have a:=h_ c8;have N:=h_ g;have H:=h_ m;rw[m]at bN;have bK:=h_ (λbG(af:Gr [] wr bG)=>oi (some (c_ b2 p)) j f.cP (f.ps.take j) x bG c8 (Sl.g_ bN af) o_);rw[hn]at bn B |-;rw[m]at bn |-;clear hc hn m bN c8 g l
     go_wp2_with fail
     go_at_call 170
     refine u.out.mono ?_;rintro e T⟨rfl,af⟩;have s:=bK.out T af;rw[N.out]at s;have K:=h_ s;obtain⟨v0,v1,ao⟩:=(az.g_ (A.trans af)).nz;rw[C.out,H.out]at v1;clear s aU bn P Z
     go_wp2_with (go_at_call 171;refine K.out.mono ?_;rintro e ae⟨rfl,rfl⟩)
     exact Jk
    .subst hn;have u:=h_ (v.out wr d);have dZ:=h_ (λbG(af:Gr [] wr bG)=>sn h6 (by rw[rT];decide) 5 M f q bG ((r.out.g_ d).g_ af) cT.out o_ ai.out o_)
     go_wp2_with fail
     go_at_call 170
     refine u.out.mono ?_;rintro e T⟨rfl,af⟩;obtain⟨v0,v1,ao⟩:=(az.g_ (A.trans af)).nz;clear aU bn P Z
     go_wp2_with fail
     go_at_call 135
     refine(dZ.out T af).mono ?_;rintro e ae⟨a6,c5,vs,rfl,bO,eh,ev,eo,ej,am⟩;have ca:=af.trans am;clear v0 v1 ao;obtain⟨v0,v1,ao⟩:=(az.g_ (A.trans ca)).nz
     have ak:=by have h:=k6 vs h6 eh ev;rw[rT]at h;exact h
     obtain⟨V,bu,_,_,dQ,d3⟩:=cv.out;have b3:=h_ (xa bu 5 M (some (c_ b off)) c fs a6 c5 vs f.A _ f.c f.bs q ae o_ rfl dQ (d3 vs ej eo) o_ bO ((o.out.g_ d).g_ ca).pc ((r.out.g_ d).g_ ca).hb ((r.out.g_ d).g_ ca).hs);have a8:ae.cell? (c_ gx 0)=some (.slice (some (c_ b off)) 3 c):=(hB.g_ (i.trans ca)).f_ 0
     by_cases b8:k=0
     .have bW:f.ps.length=0:=by rw[cY.out b8];rfl
      have bj:((k:Int)==0)=true:=by simp[b8]
      exact HX
     .have bj:((k:Int)==0)=false:=by simp[b8]
      exact HX
  .exact Kj
end Go.Proofs.YtenbhdilndfaeaaGreat
