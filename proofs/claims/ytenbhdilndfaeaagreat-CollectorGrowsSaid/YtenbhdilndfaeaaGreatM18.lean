import Derived.Test.YtenbhdilndfaeaaGreatM17
set_option maxRecDepth 100000
set_option maxHeartbeats 0
set_option linter.all false
namespace Go.Proofs.YtenbhdilndfaeaaGreat
open Go.RowKit Go.Proofs.Tryz
variable{l:List ByteArray}
theorem Jc{G:Prop} (h:G:=by
 clear b9
 go_wp2_with (go_at_call 172;refine bY.out.mono ?_;rintro e ax⟨rfl,aB⟩)
 go_roundw
 case rel=>exact⟨k+1,o_,gn,(m.trans bZ).trans aB⟩
 case measure=>exact mz):G:=h
structure CG(q:Nat->Prop)(w:World)(PA:OA)(fs:List FT)(Ns:List Nat):Prop where
 pg:PG ig q w PA fs Ns
 pc:PC w PA fs
 ix:∀(k:Nat) (h:k<fs.length),tF fs[k].name fs 0=k
 p0:∀h:0<fs.length,fs[0].ps=[]
 nd:∀f∈fs,f.ps.Nodup
 vs:∀(k:Nat) (h:k<fs.length) (h2:k<Ns.length),∃V:List ByteArray,V.length<=1000/\2<=V.length/\V.Nodup/\lR V 5 Ns[k] fs[k].bs/\∀vs:List ByteArray,nK vs fs[k].bs->(∀x∈fs[k].ps,x∈vs)->∀x∈V,x∈vs
theorem CG.hG{q:Nat->Prop}{w w':World}{PA:OA}{fs:List FT}{Ns:List Nat}(h:CG q w PA fs Ns)(hg:Gr [] w w'):CG q w' PA fs Ns:=⟨h.pg.hG hg,h.pc.hG hg,h.ix,h.p0,h.nd,h.vs⟩
theorem sH(h:l.Nodup){k:Nat}(hk:k<l.length):hasB (l.take k) l[k]=false:=by
 cases ay:hasB (l.take k) l[k]with
 |false=>rfl
 |true=>
  have hm:=qH.1 ay;have h2:=(FW k l).symm;rw[h2,Gu]at h;have h3:l[k]∈l.drop k:=List.mem_iff_getElem.2 ⟨0,p_,s_⟩;exact EK rfl (h.2.2 _ hm _ h3)
theorem Bs.take{w:World}{A:OA}(h:Bs w A l)(k:Nat)(hk:k<=l.length):Bs w A (l.take k):=by
 refine⟨s_,λhn=>?_⟩;obtain⟨b,off,cs,fz,h1,h2,h3⟩:=h.2 (by simp at hn;omega);refine⟨b,off,cs,fz,h1,h2,λj u hu=>h3 j u ?_⟩;rw[Hf,Fk]at hu;split at hu
 .exact hu
 .cases hu
theorem r5:ig.length=9:=rfl
theorem vW(q:Nat->Prop)(PA:OA)(c:Nat)(fs:List FT)(Ns:List Nat)(w:World)(D:CG q w PA fs Ns):
 Calls prog 134 #[.agg #[.slice PA 3 c]] w (uW (.tuple #[i_ 0,i_ 0]) w):=by
 refine ia λQ ak=>?_
 obtain⟨W,gx,aT,hx,hg,hB⟩:=box1 w 150 #[.slice PA 3 c];have U:W.cell? (c_ gx 0)=some (.slice PA 3 c):=hB.f_ 0;have aK:=h_ (D.hG hg);clear D
 go_enter func134,ntmps134
 go_wp2_with fail
 go_at_call 169
 refine(wQ Ck q PA c fs Ns W aK.out.pg).mono ?_;rintro e w2⟨rfl,J⟩;have ad:w2.cell? (c_ gx 0)=some (.slice PA 3 c):=(hB.hG J).f_ 0;clear U;go_wp2;have bP:=h_ aT;clear ad aT hx
 go_loopw [19] (λap w'=>∃k:Nat,k<=3/\ap=i_ k/\Gr [] W w') (λap _=>3-(intOf ap).toNat)
 case atStart=>exact⟨0,o_,gn,J⟩
 case round=>
  obtain⟨k,hk,rfl,F⟩:=hrel;clear J
  by_cases ag:k<3
  .have az:k<fs.length:=ov aK.out.pg.len;have bS:k<Ns.length:=ov aK.out.pg.nl;have C:=aK.out.hG F;obtain⟨b,off,hA,z0,aM,aV⟩:=A6.at_ C.pg.hfs az;subst hA;have y:=C.pg.rd _ (N_ az);obtain⟨_,bC,bX⟩:=aK.out.pg.nm _ (N_ az);have bO:=aK.out.pg.sg k az bS;have bN:=aK.out.vs k az bS;have G:=aK.out.ix k az;have s:=aK.out.nd _ (N_ az)
   have ed:Ns[k]<=64:=by have:=pa Ns k bS;have:=aK.out.pg.sum;omega
   have b6:k=0->fs[k].ps=[]:=λe=>by subst e;exact aK.out.p0 _
   obtain⟨f,hf⟩:=nm_ (fs[k]);obtain⟨M,z⟩:=nm_ (Ns[k]);rw[<-hf]at z0 aM aV y bC bX bO bN G s b6;rw[<-z]at bO bN ed;have r:=h_ y;have bn:=h_ bC;have c6:=h_ bO;have cx:=h_ bN;have au:=h_ G;have I:=h_ s;have c8:=h_ b6;have a8:=h_ C;clear hf z y bC bO bN G s b6 C
   have jz:=λam S=>by
    have h1:=nD (some (c_ b off)) 3 c fs f.name am a8.out.pg.len (a8.out.hG S).pg.hfs o_;rw[au.out]at h1;exact h1
   have t:=h_ jz;clear jz;obtain⟨R,a2,bW,hg1,af,E⟩:=box1 wr 213 #[.string f.name,.slice f.AP f.ps.length f.cP,.slice f.A f.bs.length f.c];obtain⟨U,ad,ar⟩:=E.nF;have hy:=(hB.hG F).f_ 0;have ca:wr.cell? (c_ gx 0)=some (.slice (some (c_ b off)) 3 c):=hy;clear hy;have eo:decide ((k:Int)<3)=true:=p_
   go_upto_region 8 with fail
   have L:=F.trans af;clear U ad ar ca z0 aM aV
   go_loopw [27] (λap w'=>∃j:Nat,j<=f.ps.length/\ap=i_ j/\Gr [] R w') (λap _=>f.ps.length-(intOf ap).toNat)
   case atStart=>exact⟨0,o_,gn,F_ _ _⟩
   case round=>
    obtain⟨j,hj,rfl,A⟩:=hrel;have d:=af.trans A;have m:=L.trans A;obtain⟨n,hn⟩:=mn_ f.ps.length;have u:=h_ hn;have N:n<=2:=o_;have U:wr.cell? (c_ gx 0)=some (.slice (some (c_ b off)) 3 c):=(hB.hG m).f_ 0;obtain⟨aQ,bj,P⟩:=(E.hG A).nF
    by_cases bp:j<f.ps.length
    .have l:=(r.out.hG d).hp;obtain⟨b2,i,B,hc⟩:=Sl.f_ l o_;have ar:=hc j (.string f.ps[j]) (by rw[E7,M_ bp];rfl);have p:=sH I.out bp;have aO:=l.take j o_;have cV:(f.ps.take j).length=j:=p_;generalize f.ps[j]=x at ar p;have cj:j<=f.cP:=ov r.out.u1;have aq:(j:Int)<=f.cP:=o_;have o:=h_ (t.out wr d);have bB:=h_ aO;have a:=h_ cV;have K:=h_ p;have v:=h_ B;rw[B]at aO;have bM:=h_ (λbL(Z:Gr [] wr bL)=>oq (some (c_ b2 i)) j f.cP (f.ps.take j) x bL cV (Sl.hG aO Z) o_);rw[hn]at bj bp |-;rw[B]at bj |-;clear hc hn B aO cV p l
     go_wp2_with fail
     go_at_call 170
     refine o.out.mono ?_;rintro e T⟨rfl,Z⟩;have g:=bM.out T Z;rw[K.out]at g;have H:=h_ g;obtain⟨v0,v1,ce⟩:=(E.hG (A.trans Z)).nF;rw[u.out,v.out]at v1;clear g aQ bj P U
     go_wp2_with (go_at_call 171;refine H.out.mono ?_;rintro e Y⟨rfl,rfl⟩)
     exact K6
    .subst hn;have o:=h_ (t.out wr d);have d9:=h_ (λbL(Z:Gr [] wr bL)=>sz ig (by rw[r5];decide) 5 M f q bL ((r.out.hG d).hG Z) c6.out o_ bn.out o_)
     go_wp2_with fail
     go_at_call 170
     refine o.out.mono ?_;rintro e T⟨rfl,Z⟩;obtain⟨v0,v1,ce⟩:=(E.hG (A.trans Z)).nF;clear aQ bj P U
     go_wp2_with fail
     go_at_call 135
     refine(d9.out T Z).mono ?_;rintro e Y⟨aY,c5,vs,rfl,a6,ey,eG,eC,ez,ah⟩;have bZ:=Z.trans ah;clear v0 v1 ce;obtain⟨v0,v1,ce⟩:=(E.hG (A.trans bZ)).nF
     have bF:=by have h:=ln vs ig ey eG;rw[r5]at h;exact h
     obtain⟨V,bD,_,_,d0,ef⟩:=cx.out;have bY:=h_ (xK bD 5 M (some (c_ b off)) c fs aY c5 vs f.A _ f.c f.bs q Y o_ rfl d0 (ef vs ez eC) o_ a6 ((a8.out.hG d).hG bZ).pc ((r.out.hG d).hG bZ).hb ((r.out.hG d).hG bZ).hs);have aW:Y.cell? (c_ gx 0)=some (.slice (some (c_ b off)) 3 c):=(hB.hG (m.trans bZ)).f_ 0
     by_cases b9:k=0
     .have bV:f.ps.length=0:=by rw[c8.out b9];rfl
      have be:((k:Int)==0)=true:=by simp[b9]
      exact Jc
     .have be:((k:Int)==0)=false:=by simp[b9]
      exact Jc
  .exact Lv
end Go.Proofs.YtenbhdilndfaeaaGreat
