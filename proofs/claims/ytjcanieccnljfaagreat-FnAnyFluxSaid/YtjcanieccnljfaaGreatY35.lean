/- A part of the proof. -/
import Derived.Test.YtjcanieccnljfaaGreatY32
import Derived.Test.YtjcanieccnljfaaGreatY34
set_option linter.constructorNameAsVariable false
set_option maxHeartbeats 16000000
set_option maxRecDepth 10000
namespace Go.Proofs.YtjcanieccnljfaaGreat.X
open Go.RowKit Go.XB Go.XN
def prZ (m:TMesh) (ks:List TRat):TProblem:=⟨m,ks,[]⟩
def nZ (m:TMesh):Nat:=(A3f m false).length
def xZ (m:TMesh) (ks:List TRat):List LF:=F1w (A5h (stM (prZ m ks)) (nZ m)) (nZ m) (D5t m B6u)
def uZ (m:TMesh) (ks:List TRat):List LF:=E4f m (xZ m ks)
def F2o (m:TMesh) (ks:List TRat):Bool:=F3k (nZ m) (stM (prZ m ks))&&(D9c (D5t m B6u)&&(decide ((D5t m B6u).length=nZ m)&&(D9c (xZ m ks)&&D9c (uZ m ks))))
def F3r (m:TMesh) (ks:List TRat):Bool:=((A3f m true).all λi=>((uZ m ks).getD i.toNat A4z).zero)&&F2t (D3t (stM (prZ m ks)) (E8c m (uZ m ks))) (D5t m B6u)
def lX:LF:=⟨0,0,0,1,0,12⟩
def lY:LF:=⟨0,0,0,0,1,12⟩
def cfE (ps:List TPoint) (e:TEdge):LF:=E1z (A7p (A4a (Z_ ps e.b) (Z_ ps e.a)).y lX) (A7p (A4a (Z_ ps e.b) (Z_ ps e.a)).x lY)
def cfF (m:TMesh):List LF:=(P_ m.triangles).map (cfE m.1)
def X5 (m:TMesh) (ks:List TRat):List LF:=List.zipWith C8u (cfF m) (B2x m ks (uZ m ks) B6u)
def F3e (m:TMesh) (xs:List LF):Bool:=D9c xs&&(List.range m.triangles.length).all λk=>(E3o m.1 B6u (m.triangles.getD k A4p)).ok&&leq (E9j (P_ m.triangles) xs k) (E3o m.1 B6u (m.triangles.getD k A4p))
def F0w (ls:List LF):Int:=ls.foldl (λd l=>d*l.d / Int.gcd d l.d) 1
def C4d (m:TMesh) (ks:List TRat) (ul xs:List LF):List LP:=(List.range m.triangles.length).flatMap λk=>E7r m ks ul xs k (m.triangles.getD k A4p)
def E9t (m:TMesh) (ul:List LF):List LP:=m.triangles.map (grF m.1 ul)
def F3p (ls:List LP):Int:=F0w (ls.flatMap λP=>[P.1,P.2])
def F3v (m:TMesh) (ks:List TRat):Int:=F3p (C4d m ks (uZ m ks) (X5 m ks))
def F3t (m m':TMesh) (ks:List TRat):Int:=F3p (E9t m (uZ m ks)++E9t m' (uZ m' ks))
def E9w (m m':TMesh) (ks:List TRat) (D E:Int):SQ :=
 D1v (E*E) (C0a D m ks (uZ m ks) (X5 m ks) m.triangles.length)++(D1v (-(18*(D*D))) (C6c E m' ks (uZ m' ks) m'.triangles.length)++D1v (18*(D*D)) (C6c E m ks (uZ m ks) m.triangles.length))
def F3q (m m':TMesh) (ks:List TRat) (D E:Int):Bool :=
 E6i D m ks (uZ m ks) (X5 m ks)&&(enB E m ks (uZ m ks)&&(enB E m' ks (uZ m' ks)&&psd 5 (C1k (E9w m m' ks D E))))
def E3r (m m':TMesh) (ks:List TRat):Bool :=
 (F2o m ks&&F2o m' ks)&&(F3r m ks&&(C5b m ks (uZ m ks) B6u&&(F3e m (X5 m ks)&&F3q m m' ks (F3v m ks) (F3t m m' ks))))
def clZ (m:TMesh):Option (List Bool):=C8n (P_ m.triangles) m.triangles 50 (B0a (P_ m.triangles).length (A3d m.triangles (upL m.triangles.length)))
def hm0 (r:Int):TMesh:=⟨[⟨mkR 0 1,mkR 0 1⟩,⟨mkR 2 1,mkR 0 1⟩,⟨mkR 2 1,mkR 2 1⟩,⟨mkR 0 1,mkR 2 1⟩,⟨mkR 1 1,mkR 1 1⟩,⟨mkR 1 1,mkR 0 1⟩,⟨mkR 0 1,mkR 1 1⟩,⟨mkR 2 1,mkR 1 1⟩,⟨mkR 1 1,mkR 2 1⟩],[⟨5,4,0,0,1⟩,⟨5,1,4,0,1⟩,⟨7,4,1,0,1⟩,⟨7,2,4,0,1⟩,⟨8,4,2,1,1⟩,⟨8,3,4,1,1⟩,⟨6,4,3,r,1⟩,⟨6,0,4,r,1⟩]⟩
def hm1 (r:Int):TMesh:=⟨[⟨mkR 0 1,mkR 0 1⟩,⟨mkR 2 1,mkR 0 1⟩,⟨mkR 2 1,mkR 1 1⟩,⟨mkR 0 1,mkR 2 1⟩,⟨mkR 1 1,mkR 1 2⟩],[⟨4,1,2,0,1⟩,⟨4,0,1,0,1⟩,⟨4,3,0,r,1⟩,⟨4,2,3,r,1⟩]⟩
def hm2:TMesh:=⟨[⟨mkR 0 1,mkR 0 1⟩,⟨mkR 1 1,mkR 0 1⟩,⟨mkR 2 1,mkR 0 1⟩,⟨mkR 2 1,mkR 1 1⟩,⟨mkR 1 1,mkR 1 1⟩,⟨mkR 1 1,mkR 2 1⟩,⟨mkR 0 1,mkR 2 1⟩,⟨mkR 0 1,mkR 1 1⟩,⟨mkR 1 2,mkR 1 2⟩,⟨mkR 3 2,mkR 1 2⟩,⟨mkR 1 2,mkR 3 2⟩],[⟨8,1,4,0,1⟩,⟨8,0,1,0,1⟩,⟨8,7,0,0,1⟩,⟨8,4,7,0,1⟩,⟨9,3,4,0,1⟩,⟨9,2,3,0,1⟩,⟨9,1,2,1,1⟩,⟨9,4,1,1,1⟩,⟨10,7,4,0,1⟩,⟨10,6,7,0,1⟩,⟨10,5,6,2,1⟩,⟨10,4,5,2,1⟩]⟩
abbrev QI:=Int×Int
def ad6:List QI:=[(1,1),(2,1),(3,1),(4,1),(1,2),(3,2)]
def kq (q:QI):TRat:=mkR q.1 q.2
def B5d (r:Int) (q u:QI):Bool:=E3r (A4d r) (hm0 r) [kq q,kq u]
def E9m (q:QI):Bool:=E3r (B0j 0) (hm1 0) [kq q]
def C1u (q u:QI):Bool:=E3r (B0j 1) (hm1 1) [kq q,kq u]
def C2k (q u:QI):Bool:=E3r (B0j 2) (hm1 2) [kq q,A0h,kq u]
def A4b (q u z:QI):Bool:=E3r (C2p 0) hm2 [kq q,kq u,kq z]
end Go.Proofs.YtjcanieccnljfaaGreat.X
