import Derived.Test.YtenbhdilndfaeaaGreatM06
set_option maxRecDepth 100000
set_option maxHeartbeats 0
set_option linter.all false
namespace Go.Proofs.YtenbhdilndfaeaaGreat
open Go.RowKit Go.Proofs.Tryz
variable{w:World}{A:OA}{l:List Rw}{E:Rw->TypeId}{k:Nat}{aT:TypeId}
def sC(e:TypeId)(w:World)(A:OA)(l:List Rw):Prop:=Sl w e 2 A l.length (iV l)
def xS(e:TypeId)(w:World)(A:OA)(l:List Vl):Prop:=Sl w e 2 A l.length (iO l)
def qs(E:Rw->TypeId)(w:World)(l:List Rw):Prop:=∀r∈l,xS (E r) w r.A r.o.fs/\r.o.fs.length<=1000000000
def sC.hF{e:TypeId}{w':World}(h:sC e w A l)(a:I [] w w'):sC e w' A l:=Sl.hF h a
def xS.hF{e:TypeId}{w':World}{l:List Vl}(h:xS e w A l)(a:I [] w w'):xS e w' A l:=Sl.hF h a
def qs.hF{w':World}(h:qs E w l)(c:I [] w w'):qs E w' l:=λb a=>⟨(h b a).1.hF c,(h b a).2⟩
def sC.alloc{e:TypeId}(h:sC e w A l)(o:Obj):sC e (w.alloc o) A l:=Sl.alloc h o
def xS.alloc{e:TypeId}{l:List Vl}(h:xS e w A l)(o:Obj):xS e (w.alloc o) A l:=Sl.alloc h o
def xS.drew{e:TypeId}{l:List Vl}(h:xS e w A l):xS e w.drew A l:=h
def Os.e(h:Os w A l):sC 56 w A l:=h
def l5.e(h:l5 w l):qs (λ_=>38) w l:=h
def xS.at_{e:TypeId}{l:List Vl}(h:xS e w A l)(hk:k<l.length):
 ∃b off,A=some (Z b off)/\w.cell? (Z b (off+k*2))=some (.bool l[k].r)/\w.cell? (Z b (off+k*2+1))=some (Y l[k].n):=by
 exact Kr
def sC.at_{e:TypeId}(h:sC e w A l)(hk:k<l.length):
 ∃b off,A=some (Z b off)/\w.cell? (Z b (off+k*2))=some (Y l[k].o.id)/\w.cell? (Z b (off+k*2+1))=some (.slice l[k].A l[k].o.fs.length l[k].c):=by
 exact Kt
def yr(A:OA)(c:Nat)(l:List Rw)(id:Int)(h:sC aT w A l)(d:l.length<=1000000000):
 Calls prog 55 #[.agg #[.slice A l.length c],Y id] w λe w'=>e=.returned (Y (jr (hX l) id))/\I [] w w':=by
 exact IB
def zr(A:OA)(c:Nat)(l:List Rw)(id:Int)(w:World)(h:sC aT w A l)(g:l.length<=1000000000)(f:jl (hX l) id=none):
 Calls prog 14 #[.agg #[.slice A l.length c],Y id] w λe w'=>e=.returned (.tuple #[.agg #[Y 0,n_],.bool false])/\I [] w w':=by
 obtain⟨b,ae,MZ⟩:=pZ w 35 #[.slice A l.length c] 56 #[Y 0,n_];have i:((w.alloc (.cells #[.slice A l.length c] 35)).alloc (.cells #[Y 0,n_] 56)).cell? (Z w.heap.size 0)=some (.slice A l.length c):=b.f_ 0
 rcases mr (hX l) id with⟨af,_⟩|⟨k,j,_,a⟩
 .go_enter func14,ntmps14
  go_wp2_with fail
  go_at_call 55
  refine(yr A c l id (h.hF MZ) g).mono ?_;exact Js
 .rw[f]at a
  cases a
def zq(A:OA)(c:Nat)(l:List Rw)(id:Int)(o:Ob)(w:World)(h:sC aT w A l)(hr:qs E w l)(m:l.length<=1000000000)(f:jl (hX l) id=some o):
 Calls prog 14 #[.agg #[.slice A l.length c],Y id] w λe w'=>∃(A':OA) (c':Nat),e=.returned (.tuple #[.agg #[Y o.id,.slice A' o.fs.length c'],.bool true])/\Vs w' A' o.fs/\I [] w w':=by
 obtain⟨MY,ae,MZ⟩:=pZ w 35 #[.slice A l.length c] 56 #[Y 0,n_];have p:((w.alloc (.cells #[.slice A l.length c] 35)).alloc (.cells #[Y 0,n_] 56)).cell? (Z w.heap.size 0)=some (.slice A l.length c):=MY.f_ 0
 rcases mr (hX l) id with⟨_,a⟩|⟨k,j,g,a⟩
 .rw[f]at a
  cases a
 .rw[f]at a;injection a with a
  have aD:=by simpa[hX]using j
  have i:o=l[k].o:=by rw[a];simp[hX]
  subst i;clear a f;have aw:=U g;clear g;have n:(k:Int)<(l.length:Int):=X
  go_enter func14,ntmps14
  go_wp2_with fail
  go_at_call 55
  refine(yr A c l id (h.hF MZ) m).mono ?_;exact IL
