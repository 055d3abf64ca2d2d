import Derived.Test.YtenbhdilndfaeaaGreatM06
set_option maxRecDepth 100000
set_option maxHeartbeats 0
set_option linter.all false
namespace Go.Proofs.YtenbhdilndfaeaaGreat
open Go.RowKit Go.Proofs.Tryz
variable{w:World}{A:OA}{l:QT}{E:Rw->TypeId}{k:Nat}{aQ:TypeId}
def sC(e:TypeId)(w:World)(A:OA)(l:QT):Prop:=Sl w e 2 A l.length (iT l)
def vK(e:TypeId)(w:World)(A:OA)(l:QA):Prop:=Sl w e 2 A l.length (i5 l)
def q0(E:Rw->TypeId)(w:World)(l:QT):Prop:=∀r∈l,vK (E r) w r.A r.o.fs/\r.o.fs.length<=1000000000
def sC.hF{e:TypeId}{w':World}(h:sC e w A l)(a:J [] w w'):sC e w' A l:=Sl.hF h a
def vK.hF{e:TypeId}{w':World}{l:QA}(h:vK e w A l)(a:J [] w w'):vK e w' A l:=Sl.hF h a
def q0.hF{w':World}(h:q0 E w l)(c:J [] w w'):q0 E w' l:=λb a=>⟨(h b a).1.hF c,(h b a).2⟩
def sC.alloc{e:TypeId}(h:sC e w A l)(o:Obj):sC e (w.alloc o) A l:=Sl.alloc h o
def vK.alloc{e:TypeId}{l:QA}(h:vK e w A l)(o:Obj):vK e (w.alloc o) A l:=Sl.alloc h o
def vK.drew{e:TypeId}{l:QA}(h:vK e w A l):vK e w.drew A l:=h
def Os.e(h:Os w A l):sC 56 w A l:=h
def l5.e(h:l5 w l):q0 (λ_=>38) w l:=h
def vK.at_{e:TypeId}{l:QA}(h:vK e w A l)(hk:k<l.length):
 ∃b off,A=some (Z b off)/\w.cell? (Z b (off+k*2))=some (.bool l[k].r)/\w.cell? (Z b (off+k*2+1))=some (Y l[k].n):=by
 exact KN
def sC.at_{e:TypeId}(h:sC e w A l)(hk:k<l.length):
 ∃b off,A=some (Z b off)/\w.cell? (Z b (off+k*2))=some (Y l[k].o.id)/\w.cell? (Z b (off+k*2+1))=some (.slice l[k].A l[k].o.fs.length l[k].c):=by
 exact KM
def yE(A:OA)(c:Nat)(l:QT)(id:Int)(h:sC aQ w A l)(d:l.length<=1000000000):
 Calls prog 55 #[.agg #[.slice A l.length c],Y id] w λe w'=>e=.returned (Y (js (hX l) id))/\J [] w w':=by
 exact IW
def zE(A:OA)(c:Nat)(l:QT)(id:Int)(w:World)(h:sC aQ w A l)(g:l.length<=1000000000)(f:ke (hX l) id=none):
 Calls prog 14 #[.agg #[.slice A l.length c],Y id] w λe w'=>e=.returned (.tuple #[.agg #[Y 0,n_],.bool false])/\J [] w w':=by
 obtain⟨b,bo,Nv⟩:=pZ w 35 #[.slice A l.length c] 56 #[Y 0,n_];have i:((w.alloc (.cells #[.slice A l.length c] 35)).alloc (.cells #[Y 0,n_] 56)).cell? (Z w.heap.size 0)=some (.slice A l.length c):=b.f_ 0;rcases m5 (hX l) id with⟨ag,_⟩|⟨k,j,_,a⟩
 .go_enter func14,ntmps14;go_wp2_with fail;go_at_call 55;refine(yE A c l id (h.hF Nv) g).mono ?_;exact JJ
 rw[f]at a;cases a
def zD(A:OA)(c:Nat)(l:QT)(id:Int)(o:Ob)(w:World)(h:sC aQ w A l)(hr:q0 E w l)(n:l.length<=1000000000)(g:ke (hX l) id=some o):
 Calls prog 14 #[.agg #[.slice A l.length c],Y id] w λe w'=>∃(A':OA) (c':Nat),e=.returned (.tuple #[.agg #[Y o.id,.slice A' o.fs.length c'],.bool true])/\Vs w' A' o.fs/\J [] w w':=by
 obtain⟨a,bo,Nv⟩:=pZ w 35 #[.slice A l.length c] 56 #[Y 0,n_];have r:((w.alloc (.cells #[.slice A l.length c] 35)).alloc (.cells #[Y 0,n_] 56)).cell? (Z w.heap.size 0)=some (.slice A l.length c):=a.f_ 0;rcases m5 (hX l) id with⟨_,f⟩|⟨k,m,i,f⟩
 rw[g]at f;cases f
 rw[g]at f;injection f with f;have aE:=by simpa[hX]using m
 have j:o=l[k].o:=by rw[f];simp[hX]
 subst j;clear f g;have K:=O i;clear i;have p:(k:Int)<(l.length:Int):=X;go_enter func14,ntmps14;go_wp2_with fail;go_at_call 55;refine(yE A c l id (h.hF Nv) n).mono ?_;exact I6
