import Derived.Test.YtenbhdilndfaeaaGreatM09
set_option maxRecDepth 100000
set_option maxHeartbeats 0
set_option linter.all false
namespace Go.Proofs.YtenbhdilndfaeaaGreat
open Go.RowKit Go.Proofs.Tryz
variable{w:World}{A:Option Addr}{l:List Rw}{E:Rw->TypeId}{k:Nat}{e0:TypeId}
def qT(e:TypeId)(w:World)(A:Option Addr)(l:List Rw):Prop:=Sl w e 2 A l.length (jy l)
def tF(e:TypeId)(w:World)(A:Option Addr)(l:List Vl):Prop:=Sl w e 2 A l.length (iR l)
def pL(E:Rw->TypeId)(w:World)(l:List Rw):Prop:=∀r∈l,tF (E r) w r.A r.o.fs/\r.o.fs.length<=1000000000
theorem qT.g_{e:TypeId}{w':World}(h:qT e w A l)(hg:Gr [] w w'):qT e w' A l:=Sl.g_ h hg
theorem tF.g_{e:TypeId}{w':World}{l:List Vl}(h:tF e w A l)(hg:Gr [] w w'):tF e w' A l:=Sl.g_ h hg
theorem pL.g_{w':World}(h:pL E w l)(hg:Gr [] w w'):pL E w' l:=λr hr=>⟨(h r hr).1.g_ hg,(h r hr).2⟩
theorem qT.alloc{e:TypeId}(h:qT e w A l)(o:Obj):qT e (w.alloc o) A l:=Sl.alloc h o
theorem tF.alloc{e:TypeId}{l:List Vl}(h:tF e w A l)(o:Obj):tF e (w.alloc o) A l:=Sl.alloc h o
theorem tF.drew{e:TypeId}{l:List Vl}(h:tF e w A l):tF e w.drew A l:=h
theorem Os.e(h:Os w A l):qT 56 w A l:=h
theorem mW.e(h:mW w l):pL (λ_=>38) w l:=h
theorem tF.at_{e:TypeId}{l:List Vl}(h:tF e w A l)(hk:k<l.length):
 ∃b off,A=some (c_ b off)/\w.cell? (c_ b (off+k*2))=some (.bool l[k].r)/\w.cell? (c_ b (off+k*2+1))=some (i_ l[k].n):=by
 exact K0
theorem qT.at_{e:TypeId}(h:qT e w A l)(hk:k<l.length):
 ∃b off,A=some (c_ b off)/\w.cell? (c_ b (off+k*2))=some (i_ l[k].o.id)/\w.cell? (c_ b (off+k*2+1))=some (.slice l[k].A l[k].o.fs.length l[k].c):=by
 exact KY
theorem xy(A:Option Addr)(c:Nat)(l:List Rw)(id:Int)(w:World)(h:qT e0 w A l)(hn:l.length<=1000000000):
 Calls prog 55 #[.agg #[.slice A l.length c],i_ id] w λe w'=>e=.returned (i_ (js (hN l) id))/\Gr [] w w':=by
 exact KD
theorem yt(A:Option Addr)(c:Nat)(l:List Rw)(id:Int)(w:World)(h:qT e0 w A l)(hn:l.length<=1000000000)(hg:jn (hN l) id=none):
 Calls prog 14 #[.agg #[.slice A l.length c],i_ id] w λe w'=>e=.returned (.tuple #[.agg #[i_ 0,n_],.bool false])/\Gr [] w w':=by
 obtain⟨K,P,J⟩:=pG w 35 #[.slice A l.length c] 56 #[i_ 0,n_];have aU:((w.alloc (.cells #[.slice A l.length c] 35)).alloc (.cells #[i_ 0,n_] 56)).cell? (c_ w.heap.size 0)=some (.slice A l.length c):=K.f_ 0
 rcases nv (hN l) id with⟨aj,_⟩|⟨k,hk,_,h2⟩
 .go_enter func14,ntmps14
  go_wp2_with fail
  go_at_call 55
  refine(xy A c l id _ (h.g_ J) hn).mono ?_;exact Hl
 .rw[hg]at h2
  cases h2
theorem yr(A:Option Addr)(c:Nat)(l:List Rw)(id:Int)(o:Ob)(w:World)(h:qT e0 w A l)(hr:pL E w l)(hn:l.length<=1000000000)(hg:jn (hN l) id=some o):
 Calls prog 14 #[.agg #[.slice A l.length c],i_ id] w λe w'=>∃(A':Option Addr) (c':Nat),e=.returned (.tuple #[.agg #[i_ o.id,.slice A' o.fs.length c'],.bool true])/\Vs w' A' o.fs/\Gr [] w w':=by
 obtain⟨K,P,J⟩:=pG w 35 #[.slice A l.length c] 56 #[i_ 0,n_];have aU:((w.alloc (.cells #[.slice A l.length c] 35)).alloc (.cells #[i_ 0,n_] 56)).cell? (c_ w.heap.size 0)=some (.slice A l.length c):=K.f_ 0
 rcases nv (hN l) id with⟨_,h2⟩|⟨k,hk,G,h2⟩
 .rw[hg]at h2
  cases h2
 .rw[hg]at h2;injection h2 with h2
  have aH:=by simpa[hN]using hk
  have M:o=l[k].o:=by rw[h2];simp[hN]
  subst M;clear h2 hg;have ag:=h_ G;clear G
  have R:(k:Int)<(l.length:Int):=by omega
  go_enter func14,ntmps14
  go_wp2_with fail
  go_at_call 55
  refine(xy A c l id _ (h.g_ J) hn).mono ?_;exact Gx
end Go.Proofs.YtenbhdilndfaeaaGreat
