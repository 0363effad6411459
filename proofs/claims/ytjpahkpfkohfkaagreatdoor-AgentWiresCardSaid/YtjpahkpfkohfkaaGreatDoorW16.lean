/- The type of a message, made and read ..; no conditions. -/
import Derived.Test.YtjpahkpfkohfkaaGreatDoorW15
import Derived.KernelRfl
set_option linter.unusedSectionVars false
set_option linter.unusedVariables false
set_option linter.unusedSimpArgs false
set_option maxRecDepth 1000000
namespace Go.Proofs.YtjpahkpfkohfkaaGreatDoor
open Go Go.EV
def W7(c m:Int):Int:=m / 128 * 512+c / 2 * 256+m / 16 % 8 * 32+c % 2 * 16+m % 16
def clsS(t:Int):Int:=t / 16 % 2+t / 256 % 2 * 2
def metS(t:Int):Int:=t % 16+t / 32 % 8 * 16+t / 512 * 128
def allN:Nat->(Nat->Bool)->Bool
 | 0,_=>true
 | n+1,f=>f n&&allN n f
theorem allN_at{n:Nat}{f:zf}(h:allN n f=true):∀k,k < n->f k=true:=by
 induction n with
 | zero=>intro k hk;omega
 | succ n ih=>
  intro k hk
  rw[allN,zC] at h
  rcases wo k n with hk2|hk2
  ·exact ih h.2 k hk2
  ·rw[show k=n by omega];exact h.1
theorem kind_all:allN 64 (λm=>allN 64 λk=>allN 4 λc=>(bOr .i64 (bOr .i64 (bOr .i64 (bOr .i64 (N6 .i64 (Y1 .i64 ((64 * m+k:Nat):Int) 3968) 2) (N6 .i64 (Y1 .i64 (c:Int) 2) 7)) (N6 .i64 (Y1 .i64 ((64 * m+k:Nat):Int) 112) 1)) (N6 .i64 (Y1 .i64 (c:Int) 1) 4)) (Y1 .i64 ((64 * m+k:Nat):Int) 15))==W7 (c:Int) ((64 * m+k:Nat):Int))=true:=by kernel_rfl
theorem kind_eq{c m:Int}(hc:0<=c/\c<=3)(hm:0<=m/\m<=4095):(g204 c m).run=some (W7 c m):=by
 have h1:=allN_at kind_all (m.toNat / 64) (by omega)
 have h2:=allN_at h1 (m.toNat % 64) (by omega)
 have h3:=allN_at h2 c.toNat (by omega)
 have em:((64 * (m.toNat / 64)+m.toNat % 64:Nat):Int)=m:=by omega
 have ec:((c.toNat:Nat):Int)=c:=by omega
 rw[em,ec] at h3
 have h4:=eq_of_beq h3
 show some _=_
 rw[<-h4]
theorem F3{c m:Int}(hc:0<=c/\c<=3)(hm:0<=m/\m<=4095):0<=W7 c m/\W7 c m < 16384:=by unfold W7;omega
section
variable {a b c d e:Int} (ha:0<=a/\a < 16) (hb:0<=b/\b < 2) (hc:0<=c/\c < 8) (hd:0<=d/\d < 2) (he:0<=e/\e < 32)
include ha hb hc hd he
theorem cls_bits:clsS (a+16 * b+32 * c+256 * d+512 * e)=b+2 * d:=by unfold clsS;omega
theorem met_bits:metS (a+16 * b+32 * c+256 * d+512 * e)=a+16 * c+128 * e:=by unfold metS;omega
theorem kind_bits:W7 (b+2 * d) (a+16 * c+128 * e)=a+16 * b+32 * c+256 * d+512 * e:=by unfold W7;omega
end
theorem bits_of{t:Int}(h:0<=t/\t < 16384):∃a b c d e:Int,t=a+16 * b+32 * c+256 * d+512 * e/\(0<=a/\a < 16)/\(0<=b/\b < 2)/\(0<=c/\c < 8)/\(0<=d/\d < 2)/\(0<=e/\e < 32):=
 ⟨t % 16,t / 16 % 2,t / 32 % 8,t / 256 % 2,t / 512,by omega,by omega,by omega,by omega,by omega,by omega⟩
theorem bits_cm{k m:Int}(hk:0<=k/\k<=3)(hm:0<=m/\m<=4095):∃a b c d e:Int,k=b+2 * d/\m=a+16 * c+128 * e/\(0<=a/\a < 16)/\(0<=b/\b < 2)/\(0<=c/\c < 8)/\(0<=d/\d < 2)/\(0<=e/\e < 32):=
 ⟨m % 16,k % 2,m / 16 % 8,k / 2,m / 128,by omega,by omega,by omega,by omega,by omega,by omega,by omega⟩
theorem clsS_kind{c m:Int}(hc:0<=c/\c<=3)(hm:0<=m/\m<=4095):clsS (W7 c m)=c:=by
 obtain⟨a,b,c,d,e,rfl,rfl,h1,h2,h3,h4,h5⟩:=bits_cm hc hm
 rw[kind_bits h1 h2 h3 h4 h5,cls_bits h1 h2 h3 h4 h5]
theorem metS_kind{c m:Int}(hc:0<=c/\c<=3)(hm:0<=m/\m<=4095):metS (W7 c m)=m:=by
 obtain⟨a,b,c,d,e,rfl,rfl,h1,h2,h3,h4,h5⟩:=bits_cm hc hm
 rw[kind_bits h1 h2 h3 h4 h5,met_bits h1 h2 h3 h4 h5]
theorem kind_cls{t:Int}(h:0<=t/\t < 16384):W7 (clsS t) (metS t)=t:=by
 obtain⟨a,b,c,d,e,rfl,h1,h2,h3,h4,h5⟩:=bits_of h
 rw[cls_bits h1 h2 h3 h4 h5,met_bits h1 h2 h3 h4 h5,kind_bits h1 h2 h3 h4 h5]
theorem clsS_range{t:Int}(h:0<=t/\t < 16384):0<=clsS t/\clsS t<=3:=by unfold clsS;omega
theorem metS_range{t:Int}(h:0<=t/\t < 16384):0<=metS t/\metS t<=4095:=by unfold metS;omega
theorem read_all:allN 128 (λm=>allN 128 λk=>bOr .i64 (Y1 .i64 (Z3 .i64 ((128 * m+k:Nat):Int) 4) 1) (Y1 .i64 (Z3 .i64 ((128 * m+k:Nat):Int) 7) 2)==clsS ((128 * m+k:Nat):Int)&&bOr .i64 (bOr .i64 (Y1 .i64 ((128 * m+k:Nat):Int) 15) (Y1 .i64 (Z3 .i64 ((128 * m+k:Nat):Int) 1) 112)) (Y1 .i64 (Z3 .i64 ((128 * m+k:Nat):Int) 2) 3968)==metS ((128 * m+k:Nat):Int))=true:=by kernel_rfl
theorem read_eq{t:Int}(h:0<=t/\t < 16384):bOr .i64 (Y1 .i64 (Z3 .i64 t 4) 1) (Y1 .i64 (Z3 .i64 t 7) 2)=clsS t/\bOr .i64 (bOr .i64 (Y1 .i64 t 15) (Y1 .i64 (Z3 .i64 t 1) 112)) (Y1 .i64 (Z3 .i64 t 2) 3968)=metS t:=by
 have h1:=allN_at read_all (t.toNat / 128) (by omega)
 have h2:=allN_at h1 (t.toNat % 128) (by omega)
 have em:((128 * (t.toNat / 128)+t.toNat % 128:Nat):Int)=t:=by omega
 rw[em,zC] at h2
 exact⟨eq_of_beq h2.1,eq_of_beq h2.2⟩
end Go.Proofs.YtjpahkpfkohfkaaGreatDoor
