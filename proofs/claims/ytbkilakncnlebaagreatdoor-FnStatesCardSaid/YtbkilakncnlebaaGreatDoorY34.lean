/- A part of the proof. -/
import Derived.Test.YtbkilakncnlebaaGreatDoorY31
import Derived.Test.YtbkilakncnlebaaGreatDoorY33
set_option linter.constructorNameAsVariable false
set_option maxHeartbeats 16000000
set_option maxRecDepth 10000
namespace Go.Proofs.YtbkilakncnlebaaGreatDoor.X
open Go.RowKit Go.XB Go.XN
abbrev QI:=Int×Int
def ad6:List QI:=[(1,1),(2,1),(3,1),(4,1),(1,2),(3,2)]
def kq (q:QI):TRat:=mkR q.1 q.2
def ul0 (r:Int) (q u:QI):List LF:=[A4k,A4k,A4k,A4k,E6y ⟨3 - r,1+r,0,3⟩ (mkR ((3 - r)*q.1*u.2+(1+r)*u.1*q.2) (q.2*u.2))]
def z4:List LF:=List.replicate 4 A4k
def z8:List LF:=List.replicate 8 A4k
def B5d (r:Int) (q u:QI):Bool:=C5b (A4d r) [kq q,kq u] (ul0 r q u) B6u
def E9m (q:QI):Bool:=C5b (B0j 0) [kq q] z4 B6u
def C1u (q u:QI):Bool:=C5b (B0j 1) [kq q,kq u] z4 B6u
def C2k (q u:QI):Bool:=C5b (B0j 2) [kq q,A0h,kq u] z4 B6u
def A4b (q u z:QI):Bool:=C5b (C2p 0) [kq q,kq u,kq z] z8 B6u
def us0 (r:Int) (q u:QI) (a b:Int):List TRat:=[U_ 0,U_ 0,U_ 0,U_ 0,A3u (mkR ((3 - r)*a+(1+r)*b) 3) (mkR ((3 - r)*q.1*u.2+(1+r)*u.1*q.2) (q.2*u.2))]
def enA (r:Int) (q u:QI):Bool:=[(-1:Int),0,1,2,3].all λa=>[(-1:Int),0,1,2,3].all λb=>J_ (enL ⟨A4d r,[kq q,kq u,kq (1,1)],[]⟩ (us0 r q u a b))
def enZ (m:TMesh) (q u z:QI):Bool:=J_ (enL ⟨m,[kq q,kq u,kq z],[]⟩ (List.replicate m.1.length (U_ 0)))
end Go.Proofs.YtbkilakncnlebaaGreatDoor.X
