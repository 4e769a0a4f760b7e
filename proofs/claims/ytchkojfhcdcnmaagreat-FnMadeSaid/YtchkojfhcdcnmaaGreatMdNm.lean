/- A text of its own: Nm; no condition but those that each theorem names. -/
import Derived.Test.YtchkojfhcdcnmaaGreatMdEnv
import Derived.Test.YtchkojfhcdcnmaaGreatMdEvWt
namespace Go.Proofs.YtchkojfhcdcnmaaGreatMd.Ev
open Go Go.IntKind
set_option maxRecDepth 100000
set_option autoImplicit false
set_option linter.unusedVariables false
noncomputable section
abbrev Ya:=Bool×(List Int)×(List Int)×Unit
abbrev Yb:=List Int
abbrev Yc:=Int×Yb×Yb×(List Ya)×Unit
abbrev Yd:=(Bool×Unit)×(Unit)
abbrev Ye:=List Ya
abbrev Yf:=Int×Int×Int×Int×Int×Unit
abbrev Yg:=Yb×Unit
abbrev Yh:=(Int×Unit)×(Unit)
abbrev Yi:=Yb×Int×Int×Unit
abbrev Yj:=List Yb
abbrev Yk:=(Yj×Bool×Unit)×(Unit)
abbrev Yl:=(Yg×(List Ye)×(Int×(List Yc)×Yb×Unit)×Yb×Unit)×Unit
abbrev Ym:=(Yj×Unit)×(Unit)
abbrev Yn:=Ye×Bool×Unit
abbrev Yo:=(Bool×Unit)×((Yg×(List Ye)×(Int×(List Yc)×Value×Unit)×Yb×Unit)×Unit)
abbrev Yp:=(Ye×Unit)×(Unit)
abbrev Yq:=List Yc
abbrev Yr:=(Ye×Int×Unit)×(Unit)
abbrev Ys:=Yg×(Unit)
abbrev Yt:=List Ye
abbrev Yu:=(Yb×Int×Int×Bool×Unit)×(Unit)
abbrev Yv:=(Yb×Bool×Unit)×(Unit)
abbrev Yw:=Int×Yj×Unit
abbrev Yx:=Yi×Unit
abbrev Yy:=(Unit)⊕Yd
abbrev Yz:=Yb×Yt×Int×Yq×Yb×Yb×Unit
abbrev YA:=Int×Unit
abbrev YB:=(Yb×(List Yf)×Unit)×(Unit)
abbrev YC:=(Unit)⊕Yh
abbrev YD:=(Bool×Bool×Unit)×(Unit)
abbrev YE:=((List Yf)×Unit)×(Unit)
abbrev YF:=Int×Yq×Yb×Unit
abbrev YG:=Yn×(Unit)
abbrev YH:=Yg×Yf×Yb×Yb×Yb×Yb×Yj×Ye×Ye×Ye×Unit
abbrev YI:=(Yg×Yt×(Int×Yq×Unit×Unit)×Yb×Unit)×Unit
abbrev YJ:=Option (Bool×List Int)
abbrev YK:=Bool×Unit
abbrev YL:=Yj×Unit
abbrev YM:=(Yq×Ye×Int×Unit)⊕Yn×(Yq×Unit)
abbrev YN:=Ye×Unit
abbrev M:Oracle E1:=Lm E1
abbrev M2:Oracle E1:=LmH E1 (Lm E1).C
section
variable {A B C D E F G H I J K L N P Q S R:Type}
def eP (N:Oracle E1) (c:Oracle E1→Option R):Prop:=∀q:Oracle E1→Option R,(∀O,c (Φ E1 O)=q O)→∀r,q N=some r→c N=some r
theorem eMfxC {f x}:eP M fun O=>O.C f x:=fun _ h _ k=>fxC h k
theorem eMfxL {f h c x}:eP M fun O=>O.L f h c x:=fun _ h _ k=>fxL h k
theorem eM2fxCH {f x}:eP M2 fun O=>O.C f x:=fun _ h _ k=>fxCH h k
theorem eM2fxLH {f h c x}:eP M2 fun O=>O.L f h c x:=fun _ h _ k=>fxLH h k
abbrev tM1 (X Y:Oracle E1→A→Option R):Prop:=∀a {r},Y M a=some r→X M a=some r
theorem eM1 {X Y:Oracle E1→A→Option R} (y:∀O,X (Φ E1 O)=Y O:=by intro O;kernel_rfl) (z:∀a,eP M fun O=>X O a:=by intros;first|exact eMfxC|exact eMfxL):tM1 X Y:=fun a _ x=>z a (fun O=>Y O a) (fun O=>by rw [←y]) _ x
abbrev tM2 (X Y:Oracle E1→A→B→Option R):Prop:=∀a b {r},Y M a b=some r→X M a b=some r
theorem eM2 {X Y:Oracle E1→A→B→Option R} (y:∀O,X (Φ E1 O)=Y O:=by intro O;kernel_rfl) (z:∀a b,eP M fun O=>X O a b:=by intros;first|exact eMfxC|exact eMfxL):tM2 X Y:=fun a b _ x=>z a b (fun O=>Y O a b) (fun O=>by rw [←y]) _ x
abbrev tM3 (X Y:Oracle E1→A→B→C→Option R):Prop:=∀a b c {r},Y M a b c=some r→X M a b c=some r
theorem eM3 {X Y:Oracle E1→A→B→C→Option R} (y:∀O,X (Φ E1 O)=Y O:=by intro O;kernel_rfl) (z:∀a b c,eP M fun O=>X O a b c:=by intros;first|exact eMfxC|exact eMfxL):tM3 X Y:=fun a b c _ x=>z a b c (fun O=>Y O a b c) (fun O=>by rw [←y]) _ x
abbrev tM4 (X Y:Oracle E1→A→B→C→D→Option R):Prop:=∀a b c d {r},Y M a b c d=some r→X M a b c d=some r
theorem eM4 {X Y:Oracle E1→A→B→C→D→Option R} (y:∀O,X (Φ E1 O)=Y O:=by intro O;kernel_rfl) (z:∀a b c d,eP M fun O=>X O a b c d:=by intros;first|exact eMfxC|exact eMfxL):tM4 X Y:=fun a b c d _ x=>z a b c d (fun O=>Y O a b c d) (fun O=>by rw [←y]) _ x
abbrev tM5 (X Y:Oracle E1→A→B→C→D→E→Option R):Prop:=∀a b c d e {r},Y M a b c d e=some r→X M a b c d e=some r
theorem eM5 {X Y:Oracle E1→A→B→C→D→E→Option R} (y:∀O,X (Φ E1 O)=Y O:=by intro O;kernel_rfl) (z:∀a b c d e,eP M fun O=>X O a b c d e:=by intros;first|exact eMfxC|exact eMfxL):tM5 X Y:=fun a b c d e _ x=>z a b c d e (fun O=>Y O a b c d e) (fun O=>by rw [←y]) _ x
abbrev tM6 (X Y:Oracle E1→A→B→C→D→E→F→Option R):Prop:=∀a b c d e f {r},Y M a b c d e f=some r→X M a b c d e f=some r
theorem eM6 {X Y:Oracle E1→A→B→C→D→E→F→Option R} (y:∀O,X (Φ E1 O)=Y O:=by intro O;kernel_rfl) (z:∀a b c d e f,eP M fun O=>X O a b c d e f:=by intros;first|exact eMfxC|exact eMfxL):tM6 X Y:=fun a b c d e f _ x=>z a b c d e f (fun O=>Y O a b c d e f) (fun O=>by rw [←y]) _ x
abbrev tM7 (X Y:Oracle E1→A→B→C→D→E→F→G→Option R):Prop:=∀a b c d e f g {r},Y M a b c d e f g=some r→X M a b c d e f g=some r
theorem eM7 {X Y:Oracle E1→A→B→C→D→E→F→G→Option R} (y:∀O,X (Φ E1 O)=Y O:=by intro O;kernel_rfl) (z:∀a b c d e f g,eP M fun O=>X O a b c d e f g:=by intros;first|exact eMfxC|exact eMfxL):tM7 X Y:=fun a b c d e f g _ x=>z a b c d e f g (fun O=>Y O a b c d e f g) (fun O=>by rw [←y]) _ x
abbrev tM8 (X Y:Oracle E1→A→B→C→D→E→F→G→H→Option R):Prop:=∀a b c d e f g h {r},Y M a b c d e f g h=some r→X M a b c d e f g h=some r
theorem eM8 {X Y:Oracle E1→A→B→C→D→E→F→G→H→Option R} (y:∀O,X (Φ E1 O)=Y O:=by intro O;kernel_rfl) (z:∀a b c d e f g h,eP M fun O=>X O a b c d e f g h:=by intros;first|exact eMfxC|exact eMfxL):tM8 X Y:=fun a b c d e f g h _ x=>z a b c d e f g h (fun O=>Y O a b c d e f g h) (fun O=>by rw [←y]) _ x
abbrev tM9 (X Y:Oracle E1→A→B→C→D→E→F→G→H→I→Option R):Prop:=∀a b c d e f g h i {r},Y M a b c d e f g h i=some r→X M a b c d e f g h i=some r
theorem eM9 {X Y:Oracle E1→A→B→C→D→E→F→G→H→I→Option R} (y:∀O,X (Φ E1 O)=Y O:=by intro O;kernel_rfl) (z:∀a b c d e f g h i,eP M fun O=>X O a b c d e f g h i:=by intros;first|exact eMfxC|exact eMfxL):tM9 X Y:=fun a b c d e f g h i _ x=>z a b c d e f g h i (fun O=>Y O a b c d e f g h i) (fun O=>by rw [←y]) _ x
abbrev tM10 (X Y:Oracle E1→A→B→C→D→E→F→G→H→I→J→Option R):Prop:=∀a b c d e f g h i j {r},Y M a b c d e f g h i j=some r→X M a b c d e f g h i j=some r
theorem eM10 {X Y:Oracle E1→A→B→C→D→E→F→G→H→I→J→Option R} (y:∀O,X (Φ E1 O)=Y O:=by intro O;kernel_rfl) (z:∀a b c d e f g h i j,eP M fun O=>X O a b c d e f g h i j:=by intros;first|exact eMfxC|exact eMfxL):tM10 X Y:=fun a b c d e f g h i j _ x=>z a b c d e f g h i j (fun O=>Y O a b c d e f g h i j) (fun O=>by rw [←y]) _ x
abbrev tM11 (X Y:Oracle E1→A→B→C→D→E→F→G→H→I→J→K→Option R):Prop:=∀a b c d e f g h i j k {r},Y M a b c d e f g h i j k=some r→X M a b c d e f g h i j k=some r
theorem eM11 {X Y:Oracle E1→A→B→C→D→E→F→G→H→I→J→K→Option R} (y:∀O,X (Φ E1 O)=Y O:=by intro O;kernel_rfl) (z:∀a b c d e f g h i j k,eP M fun O=>X O a b c d e f g h i j k:=by intros;first|exact eMfxC|exact eMfxL):tM11 X Y:=fun a b c d e f g h i j k _ x=>z a b c d e f g h i j k (fun O=>Y O a b c d e f g h i j k) (fun O=>by rw [←y]) _ x
abbrev tM12 (X Y:Oracle E1→A→B→C→D→E→F→G→H→I→J→K→L→Option R):Prop:=∀a b c d e f g h i j k l {r},Y M a b c d e f g h i j k l=some r→X M a b c d e f g h i j k l=some r
theorem eM12 {X Y:Oracle E1→A→B→C→D→E→F→G→H→I→J→K→L→Option R} (y:∀O,X (Φ E1 O)=Y O:=by intro O;kernel_rfl) (z:∀a b c d e f g h i j k l,eP M fun O=>X O a b c d e f g h i j k l:=by intros;first|exact eMfxC|exact eMfxL):tM12 X Y:=fun a b c d e f g h i j k l _ x=>z a b c d e f g h i j k l (fun O=>Y O a b c d e f g h i j k l) (fun O=>by rw [←y]) _ x
abbrev tM14 (X Y:Oracle E1→A→B→C→D→E→F→G→H→I→J→K→L→N→P→Option R):Prop:=∀a b c d e f g h i j k l m n {r},Y M a b c d e f g h i j k l m n=some r→X M a b c d e f g h i j k l m n=some r
theorem eM14 {X Y:Oracle E1→A→B→C→D→E→F→G→H→I→J→K→L→N→P→Option R} (y:∀O,X (Φ E1 O)=Y O:=by intro O;kernel_rfl) (z:∀a b c d e f g h i j k l m n,eP M fun O=>X O a b c d e f g h i j k l m n:=by intros;first|exact eMfxC|exact eMfxL):tM14 X Y:=fun a b c d e f g h i j k l m n _ x=>z a b c d e f g h i j k l m n (fun O=>Y O a b c d e f g h i j k l m n) (fun O=>by rw [←y]) _ x
abbrev tM16 (X Y:Oracle E1→A→B→C→D→E→F→G→H→I→J→K→L→N→P→Q→S→Option R):Prop:=∀a b c d e f g h i j k l m n o p {r},Y M a b c d e f g h i j k l m n o p=some r→X M a b c d e f g h i j k l m n o p=some r
theorem eM16 {X Y:Oracle E1→A→B→C→D→E→F→G→H→I→J→K→L→N→P→Q→S→Option R} (y:∀O,X (Φ E1 O)=Y O:=by intro O;kernel_rfl) (z:∀a b c d e f g h i j k l m n o p,eP M fun O=>X O a b c d e f g h i j k l m n o p:=by intros;first|exact eMfxC|exact eMfxL):tM16 X Y:=fun a b c d e f g h i j k l m n o p _ x=>z a b c d e f g h i j k l m n o p (fun O=>Y O a b c d e f g h i j k l m n o p) (fun O=>by rw [←y]) _ x
abbrev tN1 (X Y:Oracle E1→A→Option R):Prop:=∀a {r},Y M2 a=some r→X M2 a=some r
theorem eN1 {X Y:Oracle E1→A→Option R} (y:∀O,X (Φ E1 O)=Y O:=by intro O;kernel_rfl) (z:∀a,eP M2 fun O=>X O a:=by intros;first|exact eM2fxCH|exact eM2fxLH):tN1 X Y:=fun a _ x=>z a (fun O=>Y O a) (fun O=>by rw [←y]) _ x
abbrev tN2 (X Y:Oracle E1→A→B→Option R):Prop:=∀a b {r},Y M2 a b=some r→X M2 a b=some r
theorem eN2 {X Y:Oracle E1→A→B→Option R} (y:∀O,X (Φ E1 O)=Y O:=by intro O;kernel_rfl) (z:∀a b,eP M2 fun O=>X O a b:=by intros;first|exact eM2fxCH|exact eM2fxLH):tN2 X Y:=fun a b _ x=>z a b (fun O=>Y O a b) (fun O=>by rw [←y]) _ x
abbrev tN3 (X Y:Oracle E1→A→B→C→Option R):Prop:=∀a b c {r},Y M2 a b c=some r→X M2 a b c=some r
theorem eN3 {X Y:Oracle E1→A→B→C→Option R} (y:∀O,X (Φ E1 O)=Y O:=by intro O;kernel_rfl) (z:∀a b c,eP M2 fun O=>X O a b c:=by intros;first|exact eM2fxCH|exact eM2fxLH):tN3 X Y:=fun a b c _ x=>z a b c (fun O=>Y O a b c) (fun O=>by rw [←y]) _ x
abbrev tN4 (X Y:Oracle E1→A→B→C→D→Option R):Prop:=∀a b c d {r},Y M2 a b c d=some r→X M2 a b c d=some r
theorem eN4 {X Y:Oracle E1→A→B→C→D→Option R} (y:∀O,X (Φ E1 O)=Y O:=by intro O;kernel_rfl) (z:∀a b c d,eP M2 fun O=>X O a b c d:=by intros;first|exact eM2fxCH|exact eM2fxLH):tN4 X Y:=fun a b c d _ x=>z a b c d (fun O=>Y O a b c d) (fun O=>by rw [←y]) _ x
abbrev tN5 (X Y:Oracle E1→A→B→C→D→E→Option R):Prop:=∀a b c d e {r},Y M2 a b c d e=some r→X M2 a b c d e=some r
theorem eN5 {X Y:Oracle E1→A→B→C→D→E→Option R} (y:∀O,X (Φ E1 O)=Y O:=by intro O;kernel_rfl) (z:∀a b c d e,eP M2 fun O=>X O a b c d e:=by intros;first|exact eM2fxCH|exact eM2fxLH):tN5 X Y:=fun a b c d e _ x=>z a b c d e (fun O=>Y O a b c d e) (fun O=>by rw [←y]) _ x
abbrev tN6 (X Y:Oracle E1→A→B→C→D→E→F→Option R):Prop:=∀a b c d e f {r},Y M2 a b c d e f=some r→X M2 a b c d e f=some r
theorem eN6 {X Y:Oracle E1→A→B→C→D→E→F→Option R} (y:∀O,X (Φ E1 O)=Y O:=by intro O;kernel_rfl) (z:∀a b c d e f,eP M2 fun O=>X O a b c d e f:=by intros;first|exact eM2fxCH|exact eM2fxLH):tN6 X Y:=fun a b c d e f _ x=>z a b c d e f (fun O=>Y O a b c d e f) (fun O=>by rw [←y]) _ x
abbrev tN7 (X Y:Oracle E1→A→B→C→D→E→F→G→Option R):Prop:=∀a b c d e f g {r},Y M2 a b c d e f g=some r→X M2 a b c d e f g=some r
theorem eN7 {X Y:Oracle E1→A→B→C→D→E→F→G→Option R} (y:∀O,X (Φ E1 O)=Y O:=by intro O;kernel_rfl) (z:∀a b c d e f g,eP M2 fun O=>X O a b c d e f g:=by intros;first|exact eM2fxCH|exact eM2fxLH):tN7 X Y:=fun a b c d e f g _ x=>z a b c d e f g (fun O=>Y O a b c d e f g) (fun O=>by rw [←y]) _ x
abbrev tN11 (X Y:Oracle E1→A→B→C→D→E→F→G→H→I→J→K→Option R):Prop:=∀a b c d e f g h i j k {r},Y M2 a b c d e f g h i j k=some r→X M2 a b c d e f g h i j k=some r
theorem eN11 {X Y:Oracle E1→A→B→C→D→E→F→G→H→I→J→K→Option R} (y:∀O,X (Φ E1 O)=Y O:=by intro O;kernel_rfl) (z:∀a b c d e f g h i j k,eP M2 fun O=>X O a b c d e f g h i j k:=by intros;first|exact eM2fxCH|exact eM2fxLH):tN11 X Y:=fun a b c d e f g h i j k _ x=>z a b c d e f g h i j k (fun O=>Y O a b c d e f g h i j k) (fun O=>by rw [←y]) _ x
end
variable (O : Oracle E1)
def zqR (a0 a1:Yb):Option Yd:=O.C 21 (a0,a1,())
def zeq (a0 a1:Yb):Option Yd:=O.C 23 (a0,a1,())
def zkZ (a0 a1:Yb):Option Yd:=O.C 140 (a0,a1,())
def zny (a0 a1:Ye):Option Yd:=O.C 79 (a0,a1,())
def zjB (a0 a1:Yq):Option Yd:=O.C 24 (a0,a1,())
def znO (a0:Yb):Option Yh:=O.C 83 (a0,())
def zg1 (a0:Yg) (a1:Yb):Option ((Yw×Unit)×(Unit)):=O.C 27 (a0,a1,())
def zlo (a0:Int):Option Yd:=O.C 130 (a0,())
def zcv (a0:Yb) (a1:Unit):Option Yh:=O.C 8585395 (a0,a1,())
def za9 (a0:Yb) (a1:Unit):Option Yd:=O.C 8585345 (a0,a1,())
def zen (a0:Yg):Option Yd:=O.C 66 (a0,())
def zpX (a0:Int):Option Yd:=O.C 205 (a0,())
def zoF (a0 a1:Int):Option Yh:=O.C 206 (a0,a1,())
def zji (a0 a1:Int):Option Yd:=O.C 265 (a0,a1,())
def zb8 (a0:Yb) (a1:YA):Option Yh:=O.C 17432755 (a0,a1,())
def zaT (a0:Yb) (a1:YA):Option Yd:=O.C 17432705 (a0,a1,())
def zkH (a0:Int) (a1:Yb):Option Yd:=O.C 207 (a0,a1,())
def zj2 (a0:Yg) (a1:Yw):Option Yd:=O.C 157 (a0,a1,())
def zmh (a0:Yg) (a1:Yw):Option Yd:=O.C 98 (a0,a1,())
def ze5 (a0:Yg) (a1:Int):Option Yh:=O.C 250 (a0,a1,())
def zfE (a0:Yg) (a1:Yb):Option Yd:=O.C 195 (a0,a1,())
def zlz (a0:Yg) (a1:Ya):Option Yd:=O.C 148 (a0,a1,())
def zhq (a0:Ya) (a1:Yg):Option Yd:=O.C 147 (a0,a1,())
def za7 (a0:Ye) (a1:Yg×Unit):Option Yh:=O.C 9699522 (a0,a1,())
def z9 (a0:Ye) (a1:Yg×Unit):Option Yd:=O.C 9699474 (a0,a1,())
def zcf (a0:Yg) (a1:Ye):Option Yd:=O.C 87 (a0,a1,())
def zk7 (a0:Yb) (a1:Int):Option Yh:=O.C 118 (a0,a1,())
def zbJ (a0:Yb) (a1:Int):Option Yd:=O.C 210 (a0,a1,())
def znM (a0:Yb) (a1:Int):Option Yd:=O.C 209 (a0,a1,())
def zcp (a0:Yj) (a1:YA):Option Yh:=O.C 13762826 (a0,a1,())
def za4 (a0:Yj) (a1:YA):Option Yd:=O.C 13762768 (a0,a1,())
def zin (a0:Yj):Option Ys:=O.C 158 (a0,())
def zbO (a0:Ye):Option Ym:=O.C 159 (a0,())
def zj9 (a0:Yg) (a1:Ye):Option Yd:=O.C 99 (a0,a1,())
def zjw (a0:Yg) (a1:Yw) (a2:Yb) (a3:Int) (a4:Yb):Option ((Int×Int×Unit)×(Unit)):=O.C 267 (a0,a1,a2,a3,a4,())
def ziS (a0:Yg) (a1:Yw) (a2 a3:Yb):Option Yh:=O.C 212 (a0,a1,a2,a3,())
def zh4 (a0:Ya) (a1:Yg) (a2:Yw) (a3:Yb):Option Yd:=O.C 211 (a0,a1,a2,a3,())
def zba (a0:Ye) (a1:Yg×Yw×Yb×Unit):Option Yh:=O.C 13893826 (a0,a1,())
def zac (a0:Ye) (a1:Yg×Yw×Yb×Unit):Option Yd:=O.C 13893778 (a0,a1,())
def zjZ (a0:Yg) (a1:Yw) (a2:Ye) (a3:Yb):Option Yd:=O.C 160 (a0,a1,a2,a3,())
def zjS (a0:Yg) (a1:Yw) (a2:Ye):Option Yv:=O.C 100 (a0,a1,a2,())
def zcG (a0:Yg) (a1:Yw) (a2:Ye):Option YD:=O.C 33 (a0,a1,a2,())
def zg6 (a0:Yg) (a1:Yw) (a2:Yt):Option YD:=O.C 28 (a0,a1,a2,())
def zlj (a0:Yg) (a1:Ye):Option Yd:=O.C 84 (a0,a1,())
def zL (a0 a1:Yb):Option Yd:=O.C 193 (a0,a1,())
def zjv (a0 a1:Ya):Option Yd:=O.C 197 (a0,a1,())
def zjh (a0 a1:Ya):Option Yd:=O.C 196 (a0,a1,())
def zbe (a0:Ye) (a1:Ya×Unit):Option Yh:=O.C 12910786 (a0,a1,())
def zE (a0:Ye) (a1:Ya×Unit):Option Yd:=O.C 12910738 (a0,a1,())
def zk3 (a0:Ye):Option Yd:=O.C 149 (a0,())
def zaE (a0:Ya) (a1:Int):Option ((Yb×Yb×Unit)×(Unit)):=O.C 238 (a0,a1,())
def zes (a0:Yg) (a1:Yb) (a2:Int):Option Yh:=O.C 291 (a0,a1,a2,())
def zcy (a0:Yg) (a1:Yj) (a2 a3:Yb):Option Yk:=O.C 251 (a0,a1,a2,a3,())
def zeC (a0:Yg) (a1:Yj) (a2 a3:Ye):Option Yk:=O.C 198 (a0,a1,a2,a3,())
def znC (a0:Yb) (a1:Int):Option Yd:=O.C 252 (a0,a1,())
def zpd (a0:Yj):Option Ym:=O.C 199 (a0,())
def zd5 (a0:Yg) (a1 a2:Ye):Option Yk:=O.C 151 (a0,a1,a2,())
def zfO (a0:Ye) (a1:Yg) (a2:Ye):Option Yd:=O.C 150 (a0,a1,a2,())
def zaC (a0:Yt) (a1:Yg×Ye×Unit):Option Yh:=O.C 9896081 (a0,a1,())
def zK (a0:Yt) (a1:Yg×Ye×Unit):Option Yd:=O.C 9896021 (a0,a1,())
def zgG (a0:Yg) (a1:Ye) (a2:Yt):Option Yd:=O.C 88 (a0,a1,a2,())
def zi8 (a0:Ye) (a1:Yg):Option Yd:=O.C 86 (a0,a1,())
def za2 (a0:Yt) (a1:Yg×Unit):Option Yh:=O.C 5701777 (a0,a1,())
def zZ (a0:Yt) (a1:Yg×Unit):Option Yd:=O.C 5701717 (a0,a1,())
def zhB (a0:Yg) (a1:Ye) (a2:Yt):Option YD:=O.C 29 (a0,a1,a2,())
def z6 (a0 a1 a2:Int):Option Yd:=O.C 62 (a0,a1,a2,())
def zjL (a0:Yg) (a1:Yb) (a2:Int):Option Yh:=O.C 268 (a0,a1,a2,())
def zdV (a0:Yg) (a1:Yb):Option Yd:=O.C 216 (a0,a1,())
def zos (a0:Yg) (a1:Ya):Option Yd:=O.C 165 (a0,a1,())
def zaG (a0:Yg) (a1:Ye):Option Yd:=O.C 104 (a0,a1,())
def zjH (a0:Yb) (a1 a2:Int):Option Yd:=O.C 107 (a0,a1,a2,())
def zfW (a0:Yg):Option Yd:=O.C 125 (a0,())
def zhR (a0:Yg) (a1:Yt):Option Yd:=O.C 61 (a0,a1,())
def zaI (a0:Yb):Option Ys:=O.C 92 (a0,())
def zkn (a0:Ye):Option Yd:=O.C 171 (a0,())
def zfY (a0:Yb) (a1:Int):Option Yd:=O.C 302 (a0,a1,())
def znr (a0:Yj):Option Ym:=O.C 297 (a0,())
def zoD (a0:Ye):Option Ym:=O.C 298 (a0,())
def zie (a0:Ye):Option Yp:=O.C 253 (a0,())
def zl2 (a0:Ye):Option Yp:=O.C 174 (a0,())
def zaS (a0 a1:Yb):Option Yd:=O.C 217 (a0,a1,())
def zhE (a0 a1:Ya):Option Yd:=O.C 218 (a0,a1,())
def zpY (a0:Ye):Option Yp:=O.C 254 (a0,())
def zbE (a0:Ye):Option Yp:=O.C 200 (a0,())
def zA (a0:Yj) (a1:Yb):Option Ys:=O.C 260 (a0,a1,())
def zfp (a0:Yj) (a1:Ye):Option Yp:=O.C 215 (a0,a1,())
def zjJ (a0:Ye) (a1 a2:Int):Option Yd:=O.C 255 (a0,a1,a2,())
def zbs (a0:Ya) (a1:Int):Option ((Yb×Yb×Unit)×(Unit)):=O.C 256 (a0,a1,())
def zp1 (a0:Yg) (a1:Ye):Option YG:=O.C 214 (a0,a1,())
def znZ (a0:Yb) (a1:Int):Option Ys:=O.C 123 (a0,a1,())
def ziq (a0:Yb):Option Ys:=O.C 330 (a0,())
def zpZ (a0:Ye):Option Ys:=O.C 320 (a0,())
def zoG (a0:Ye):Option Yh:=O.C 299 (a0,())
def zl4 (a0:Yb) (a1:Int):Option Ys:=O.C 300 (a0,a1,())
def zoB (a0:Yg) (a1 a2:Ye):Option YG:=O.C 257 (a0,a1,a2,())
def zcz (a0:Yg) (a1:Yb) (a2:Int):Option Ys:=O.C 259 (a0,a1,a2,())
def zl6 (a0:Yg) (a1:Yj) (a2 a3:Yb):Option Yd:=O.C 301 (a0,a1,a2,a3,())
def zkk (a0:Yj) (a1:Int) (a2:Yb):Option Ym:=O.C 303 (a0,a1,a2,())
def zjn (a0:Yg) (a1 a2:Yb):Option Yk:=O.C 258 (a0,a1,a2,())
def zg5 (a0:Yg) (a1:Yb) (a2:Int) (a3:Yb):Option Ys:=O.C 261 (a0,a1,a2,a3,())
def zlO (a0:Yb) (a1:Int):Option Yh:=O.C 334 (a0,a1,())
def znt (a0 a1:Yb):Option Yd:=O.C 331 (a0,a1,())
def ze7 (a0 a1:Yb):Option Yd:=O.C 321 (a0,a1,())
def zmi (a0 a1:Yb):Option Yh:=O.C 304 (a0,a1,())
def zko (a0 a1:Yb):Option Yd:=O.C 262 (a0,a1,())
def zm1 (a0 a1:Yj):Option Ym:=O.C 322 (a0,a1,())
def zik (a0 a1:Yj):Option Yd:=O.C 323 (a0,a1,())
def zoA (a0 a1:Yj):Option Yh:=O.C 305 (a0,a1,())
def zmJ (a0:Ya):Option Ym:=O.C 306 (a0,())
def ze1 (a0:Ye) (a1:Int):Option Yd:=O.C 263 (a0,a1,())
def zc5 (a0:Yg) (a1 a2:Ye) (a3:Yf):Option Yr:=O.C 201 (a0,a1,a2,a3,())
def zdU (a0:Yg) (a1:Ye) (a2:Int):Option Yr:=O.C 202 (a0,a1,a2,())
def zei (a0:Yg) (a1:Ye) (a2:Yf):Option Yr:=O.C 203 (a0,a1,a2,())
def zd2 (a0:Yg) (a1:Yj) (a2 a3:Yb):Option Yk:=O.C 269 (a0,a1,a2,a3,())
def zm8 (a0:Yg) (a1 a2 a3:Yb):Option Yv:=O.C 324 (a0,a1,a2,a3,())
def zmT (a0:Yg) (a1:Yb) (a2:Ye):Option Yu:=O.C 307 (a0,a1,a2,())
def zih (a0:Yg) (a1:Yb) (a2:Ye):Option ((Yb×Int×Unit)×(Unit)):=O.C 264 (a0,a1,a2,())
def zgn (a0:Yg) (a1 a2:Ye):Option Yr:=O.C 204 (a0,a1,a2,())
def zm5 (a0:Yg) (a1:Yt) (a2:Yq) (a3:Int) (a4 a5:Yb):Option YG:=O.C 156 (a0,a1,a2,a3,a4,a5,())
def zeU (a0:Yg) (a1:Yt) (a2:Yq) (a3:Int) (a4 a5:Yb):Option ((Yc×Bool×Unit)×(Unit)):=O.C 97 (a0,a1,a2,a3,a4,a5,())
def zkx (a0:Ye):Option Yh:=O.C 169 (a0,())
def zgi (a0:Yq) (a1:Yb) (a2:Int):Option Yh:=O.C 108 (a0,a1,a2,())
def zmW (a0:Yb) (a1:Int):Option Ys:=O.C 126 (a0,a1,())
def zfs (a0:Ye):Option Yd:=O.C 166 (a0,())
def zpR (a0:Yj):Option Ym:=O.C 270 (a0,())
def zgw (a0:Yg) (a1 a2:Ye) (a3:Int) (a4:Yj):Option Yk:=O.C 219 (a0,a1,a2,a3,a4,())
def zpW (a0:Int) (a1:Yb):Option Ys:=O.C 220 (a0,a1,())
def zn7 (a0:Yg) (a1 a2:Ye):Option Yk:=O.C 167 (a0,a1,a2,())
def zdK (a0:Yg) (a1:Ye) (a2:Yt):Option Yd:=O.C 105 (a0,a1,a2,())
def zha (a0:Yq) (a1:Yb):Option Ys:=O.C 110 (a0,a1,())
def zgv (a0:Yg×Yt×(Int×Yq×Value×Unit)×Yb×Unit) (a1:Yc):Option Yo:=O.C 224 (a0,a1,())
def zml (a0:Yg) (a1:Yt) (a2:Yq) (a3:Int) (a4 a5:Yb):Option (Yn×(Yq×Unit)):=O.C 4294967452 (a0,a1,a2,a3,a4,a5,())
def zg2 (a0:Yg) (a1:Yt) (a2:Yq) (a3:Int) (a4 a5:Yb):Option ((Yc×Bool×Unit)×(Yq×Unit)):=O.C 4294967393 (a0,a1,a2,a3,a4,a5,())
def zhS (a0:Yg×Yt×YF×Yb×Unit) (a1:Int):Option (YA×Yl):=O.C 177 (a0,a1,())
def zkO (a0:Yg) (a1:Ye):Option YB:=O.C 225 (a0,a1,())
def zp0 (a0 a1:Ye):Option Yd:=O.C 282 (a0,a1,())
def zd0 (a0:Yg×Yt×(Int×Yq×Value×Unit)×Yb×Unit) (a1:Int) (a2 a3:Yb):Option Yo:=O.C 226 (a0,a1,a2,a3,())
def zpT (a0:Yg) (a1 a2:Ye):Option YE:=O.C 283 (a0,a1,a2,())
def ziD (a0:Yg×Yt×(Int×Yq×Value×Unit)×Yb×Unit) (a1 a2:Int):Option Yo:=O.C 227 (a0,a1,a2,())
def zlm (a0:Yg×Yt×YF×Yb×Unit) (a1:Int):Option (YK×Yl):=O.C 178 (a0,a1,())
def zjW (a0:Yg×Yt×YF×Yb×Unit) (a1:Int):Option (YK×Yl):=O.C 127 (a0,a1,())
def zoy (a0:Yg) (a1:Yt) (a2:Int):Option ((YF×Unit)×(Unit)):=O.C 63 (a0,a1,a2,())
def zq1 (a0:Yg) (a1:Yt) (a2:Int):Option ((YF×Bool×Unit)×(Unit)):=O.C 10 (a0,a1,a2,())
def ziL (a0:Yi):Option (YA×Yx):=O.C 152 (a0,())
def ze (a0:Yi) (a1:Int):Option (YA×Yx):=O.C 91 (a0,a1,())
def zJ (a0:Yi) (a1:Int):Option (YK×Yx):=O.C 90 (a0,a1,())
def zcj (a0:Yi) (a1:Yb):Option (YA×Yx):=O.C 138 (a0,a1,())
def zb3 (a0:Yi) (a1:Yg) (a2 a3:Int):Option (Yg×Yx):=O.C 183 (a0,a1,a2,a3,())
def zg4 (a0:Yi) (a1:Yg):Option ((Ya×Unit)×Yx):=O.C 164 (a0,a1,())
def zcx (a0:Yi) (a1:Yg):Option (YN×Yx):=O.C 161 (a0,a1,())
def zdZ (a0:Yi) (a1:Yg) (a2:Int):Option ((Yt×Unit)×Yx):=O.C 102 (a0,a1,a2,())
def zix (a0:Yi):Option ((Yg×Unit)×Yx):=O.C 137 (a0,())
def zh9 (a0:Yi) (a1:Int):Option ((Ya×Unit)×Yx):=O.C 139 (a0,a1,())
def zjg (a0:Yi):Option ((Yg×Yt×Unit)×Yx):=O.C 77 (a0,())
def zjI (a0:Yi):Option ((Yg×Yt×Yq×Unit)×Yx):=O.C 89 (a0,())
def zj6 (a0:Yb):Option ((Yg×Yt×Yq×Int×Yb×Yb×Unit)×(Unit)):=O.C 30 (a0,())
def zgB (a0:Ye) (a1:Yg):Option Yd:=O.C 131 (a0,a1,())
def zaP (a0:Yt) (a1:Yg×Unit):Option Yh:=O.C 8650897 (a0,a1,())
def zN (a0:Yt) (a1:Yg×Unit):Option Yd:=O.C 8650837 (a0,a1,())
def zh3 (a0:Yg) (a1:Yt):Option Yd:=O.C 67 (a0,a1,())
def zhl (a0:Yc) (a1:Yg):Option Yd:=O.C 154 (a0,a1,())
def za0 (a0:Yq) (a1:Yg×Unit):Option Yh:=O.C 10158223 (a0,a1,())
def zW (a0:Yq) (a1:Yg×Unit):Option Yd:=O.C 10158233 (a0,a1,())
def zd6 (a0:Yg) (a1:Yq):Option Yd:=O.C 93 (a0,a1,())
def zoC (a0:Int) (a1:Yq):Option Yd:=O.C 155 (a0,a1,())
def zcV (a0:Yb) (a1:Yq×Unit):Option Yh:=O.C 10223795 (a0,a1,())
def zbq (a0:Yb) (a1:Yq×Unit):Option Yd:=O.C 10223745 (a0,a1,())
def zlQ (a0:Yq) (a1:Yb):Option Yd:=O.C 94 (a0,a1,())
def zmN (a0:Ye):Option Yd:=O.C 170 (a0,())
def zdG (a0:Ye) (a1:Yj):Option Yp:=O.C 229 (a0,a1,())
def zpN (a0:Yj):Option Ym:=O.C 287 (a0,())
def zjU (a0:Ye):Option Yp:=O.C 234 (a0,())
def zl5 (a0:Ya):Option ((Ya×Unit)×(Unit)):=O.C 119 (a0,())
def zp4 (a0 a1:Ya):Option Yd:=O.C 288 (a0,a1,())
def zbP (a0:Ye) (a1:Ya×Unit):Option Yh:=O.C 18940098 (a0,a1,())
def zX (a0:Ye) (a1:Ya×Unit):Option Yd:=O.C 18940050 (a0,a1,())
def zsR (a0:Ye):Option Yp:=O.C 235 (a0,())
def zdT (a0:Ye):Option Yp:=O.C 186 (a0,())
def zbd (a0:Yg) (a1:Yb) (a2:Int):Option Ys:=O.C 241 (a0,a1,a2,())
def zgA (a0:Yj):Option Ys:=O.C 292 (a0,())
def zgR (a0:Yg) (a1:Yb) (a2:Int) (a3:Yb):Option Ys:=O.C 244 (a0,a1,a2,a3,())
def zcD (a0:Yj) (a1:Yb):Option Yv:=O.C 243 (a0,a1,())
def zot (a0:Yb) (a1:Int):Option Yh:=O.C 332 (a0,a1,())
def zls (a0 a1:Yb):Option Yd:=O.C 326 (a0,a1,())
def ze6 (a0 a1:Yb):Option Yd:=O.C 317 (a0,a1,())
def zdc (a0:Yg) (a1 a2 a3:Yb):Option Yv:=O.C 314 (a0,a1,a2,a3,())
def zjq (a0:Yg) (a1:Yb) (a2:Ye):Option Yu:=O.C 284 (a0,a1,a2,())
def zfh (a0:Yg) (a1:Yb) (a2:Ye):Option ((Yb×Int×Unit)×(Unit)):=O.C 228 (a0,a1,a2,())
def zgs (a0:Yg) (a1 a2:Ye):Option Yr:=O.C 181 (a0,a1,a2,())
def zI (a0:Int) (a1:Yq) (a2:Yb):Option Yp:=O.C 184 (a0,a1,a2,())
def zdQ (a0 a1:Int) (a2 a3:Yb):Option Yd:=O.C 185 (a0,a1,a2,a3,())
def zh5 (a0:Ye) (a1:Int):Option YG:=O.C 187 (a0,a1,())
def zdW (a0:Ye) (a1:Int) (a2:Bool):Option Yd:=O.C 236 (a0,a1,a2,())
def zim (a0:Int):Option Yd:=O.C 237 (a0,())
def zq4 (a0:Yb) (a1:Int):Option Ys:=O.C 289 (a0,a1,())
def zht (a0:Yb) (a1:Yg):Option Yd:=O.C 315 (a0,a1,())
def zbD (a0:Yj) (a1:Yg×Unit):Option Yh:=O.C 20709642 (a0,a1,())
def zau (a0:Yj) (a1:Yg×Unit):Option Yd:=O.C 20709584 (a0,a1,())
def zf8 (a0:Yg) (a1:Yj):Option Yd:=O.C 290 (a0,a1,())
def zlr (a0:Yg) (a1 a2:Ye):Option YG:=O.C 239 (a0,a1,a2,())
def zgy (a0:Yg) (a1 a2:Yb):Option Yk:=O.C 240 (a0,a1,a2,())
def zdN (a0:Yj) (a1:Ye):Option YG:=O.C 242 (a0,a1,())
def zbK (a0:Yt):Option Yp:=O.C 245 (a0,())
def zbu (a0:Ye) (a1:Bool):Option Yr:=O.C 246 (a0,a1,())
def zjX (a0 a1:Yb):Option Yh:=O.C 294 (a0,a1,())
def zfm (a0 a1:Yb):Option Yd:=O.C 247 (a0,a1,())
def zeR (a0:Yj) (a1 a2:Int):Option Ym:=O.C 328 (a0,a1,a2,())
def zk4 (a0 a1:Yb):Option Yd:=O.C 333 (a0,a1,())
def zb2 (a0:Yj) (a1:Yg):Option Yh:=O.C 21889290 (a0,a1,())
def zaN (a0:Yj) (a1:Yg):Option Yd:=O.C 21889232 (a0,a1,())
def ze2 (a0 a1:Yj):Option Yd:=O.C 329 (a0,a1,())
def zhV (a0 a1:Yb):Option Yd:=O.C 327 (a0,a1,())
def zaa (a0:Yj) (a1:Yg):Option Yh:=O.C 21496074 (a0,a1,())
def zjY (a0 a1:Yj):Option Yh:=O.C 318 (a0,a1,())
def ziu (a0:Ya):Option Ym:=O.C 319 (a0,())
def zkA (a0 a1:Ya):Option Yh:=O.C 295 (a0,a1,())
def zcT (a0:Ye) (a1:Int):Option Yd:=O.C 248 (a0,a1,())
def zbY (a0:Yg) (a1 a2:Ye) (a3:Yf):Option Yr:=O.C 188 (a0,a1,a2,a3,())
def zeD (a0:Yg) (a1:Ye) (a2:Int):Option Yr:=O.C 189 (a0,a1,a2,())
def zfn (a0:Yg) (a1:Ye) (a2:Yf):Option Yr:=O.C 190 (a0,a1,a2,())
def zmq (a0:Yg) (a1:Yt) (a2:Yq) (a3:Int) (a4 a5:Yb):Option YG:=O.C 141 (a0,a1,a2,a3,a4,a5,())
def zgq (a0:Yg) (a1:Yt) (a2:Yq) (a3:Int) (a4 a5:Yb):Option ((Yc×Bool×Unit)×(Unit)):=O.C 95 (a0,a1,a2,a3,a4,a5,())
def zkQ (a0:Yg) (a1:Yt) (a2:Yq) (a3:Int) (a4 a5:Yb):Option ((Yc×Bool×Unit)×(Unit)):=O.C 31 (a0,a1,a2,a3,a4,a5,())
def zg8 (a0:Yg) (a1:Yq):Option Yd:=O.C 96 (a0,a1,())
def zkY (a0:Yg) (a1:Yt) (a2:Yq) (a3:Int) (a4 a5:Yb):Option ((Yc×Bool×Unit)×(Unit)):=O.C 32 (a0,a1,a2,a3,a4,a5,())
def ze4 (a0:Yg) (a1:Yj):Option Yd:=O.C 213 (a0,a1,())
def zjE (a0:Yg) (a1:Ye):Option YG:=O.C 4294967510 (a0,a1,())
def zhL (a0:Yg) (a1:Yj) (a2:Ye):Option YG:=O.C 162 (a0,a1,a2,())
def zk0 (a0:Yi) (a1:Yg):Option (YL×Yx):=O.C 163 (a0,a1,())
def zjR (a0:Yb):Option ((Yg×Ye×Ye×Unit)×(Unit)):=O.C 101 (a0,())
def zeO (a0:Yb):Option ((Yg×Ye×Yt×Unit)×(Unit)):=O.C 34 (a0,())
def zlt (a0:Yg) (a1:Ye):Option Yd:=O.C 103 (a0,a1,())
def zhN (a0:Yg) (a1:Ye) (a2:Yt):Option YD:=O.C 35 (a0,a1,a2,())
def zgS (a0:Yb):Option ((Yg×Yq×Yb×Int×Unit)×(Unit)):=O.C 36 (a0,())
def zm0 (a0:Ye):Option Yh:=O.C 168 (a0,())
def zpQ (a0:Yq) (a1:Yb) (a2:Int):Option Yh:=O.C 106 (a0,a1,a2,())
def zk5 (a0:Yg) (a1:Yq) (a2:Yb) (a3:Int):Option ((Int×Bool×Unit)×(Unit)):=O.C 37 (a0,a1,a2,a3,())
def zkB (a0:Yg) (a1:Yq) (a2:Yb) (a3:Int):Option ((Int×Bool×Unit)×(Unit)):=O.C 38 (a0,a1,a2,a3,())
def zkG (a0:Yb):Option ((Yg×Yq×Yb×Unit)×(Unit)):=O.C 39 (a0,())
def zoE (a0:Yq) (a1:Yb):Option Ys:=O.C 109 (a0,a1,())
def zlN (a0:Yg) (a1:Yq) (a2:Yb):Option Yv:=O.C 40 (a0,a1,a2,())
def zlZ (a0:Yg) (a1:Yq) (a2:Yb):Option Yv:=O.C 41 (a0,a1,a2,())
def zrl (a0:Yb) (a1:Int):Option Yd:=O.C 42 (a0,a1,())
def zpU (a0 a1:Yb):Option Yd:=O.C 5 (a0,a1,())
def zyk:Code:=Code.part (bodyOf 23) [1,1,0,1,0,0]
def zhC (a0 a1:Yb) (a2 a3:Int):Option Yy:=O.L 23 zse zyk (a0,a1,a2,a3,())
def zyc:Code:=Code.part (bodyOf 79) [1,1,0,1,0,0]
def zhz (a0 a1:Ye) (a2 a3:Int):Option Yy:=O.L 79 zsa zyc (a0,a1,a2,a3,())
def zxs:Code:=Code.part (bodyOf 24) [1,1,0,1,0,0]
def zdd (a0 a1:Yq) (a2 a3:Int):Option Yy:=O.L 24 zrH zxs (a0,a1,a2,a3,())
def zyo:Code:=Code.part (bodyOf 83) [1,1,0,1,0,0]
def zhH (a0:Int) (a1:Yb) (a2 a3:Int):Option (YA⊕Yh):=O.L 83 zr3 zyo (a0,a1,a2,a3,())
def zx1:Code:=Code.part (bodyOf 27) [1,1,1,0,1,0,0]
def zhK (a0:Yw) (a1:Int) (a2:Yw) (a3:Yb) (a4 a5:Int):Option ((Yw×Yw×Unit)⊕((Yw×Unit)×(Unit))):=O.L 27 zr7 zx1 (a0,a1,a2,a3,a4,a5,())
def zxd:Code:=Code.part (bodyOf 27) [1,1,1,0,1,0,0,1,1,0,0,1,1,0,0,0]
def zgp (a0:Yw) (a1:Int) (a2:Yw) (a3 a4:Int) (a5:Yb) (a6 a7:Int):Option ((Yw×Int×Yw×Int×Yb×Int×Int×Unit)⊕((Yw×Unit)×(Unit))):=O.L 27 zqq zxd (a0,a1,a2,a3,a4,a5,a6,a7,())
def zwo:Code:=Code.part (bodyOf 27) [1,1,1,0,1,0,0,1,1,0,0,1,1,1,1,0,0,0]
def zfo (a0:Yw) (a1:Int) (a2:Yw) (a3:Int) (a4 a5:Yb) (a6 a7:Int):Option ((Yw×Int×Yw×Yb×Yb×Int×Int×Unit)⊕((Yw×Unit)×(Unit))):=O.L 27 zpb zwo (a0,a1,a2,a3,a4,a5,a6,a7,())
def zka:Code:=Code.part (bodyOf 179) [1,0,1,0,0]
def zar (a0:Yb) (a1:Unit) (a2 a3:Int):Option YC:=O.L 8585395 zdY zka (a0,a1,a2,a3,())
def zzg:Code:=Code.part (bodyOf 206) [1,1,0,1,0,0]
def ziN (a0 a1 a2 a3:Int):Option (YA⊕Yh):=O.L 206 zte zzg (a0,a1,a2,a3,())
def ziW:Code:=Code.part (bodyOf 179) [1,0,1,0,0]
def zai (a0:Yb) (a1:YA) (a2 a3:Int):Option YC:=O.L 17432755 zdj ziW (a0,a1,a2,a3,())
def zvZ:Code:=Code.part (bodyOf 157) [1,1,0,1,0,0]
def zeI (a0:Yg) (a1:Yw) (a2:Yj) (a3 a4:Int):Option Yy:=O.L 157 zoM zvZ (a0,a1,a2,a3,a4,())
def zvW:Code:=Code.part (bodyOf 195) [1,1,1,0,1,0,0]
def zcq (a0:Yg) (a1:Int) (a2:Yb) (a3 a4:Int):Option (YA⊕Yd):=O.L 195 zoH zvW (a0,a1,a2,a3,a4,())
def zfQ:Code:=Code.part (bodyOf 194) [1,0,1,0,0]
def zz (a0:Ye) (a1:Yg×Unit) (a2 a3:Int):Option YC:=O.L 9699522 zb4 zfQ (a0,a1,a2,a3,())
def ztU:Code:=Code.part (bodyOf 118) [1,0,1,0,0]
def zdo (a0:Yb) (a1 a2 a3:Int):Option YC:=O.L 118 zmU ztU (a0,a1,a2,a3,())
def zjD:Code:=Code.part (bodyOf 266) [1,0,1,0,0]
def zao (a0:Yj) (a1:YA) (a2 a3:Int):Option YC:=O.L 13762826 zdS zjD (a0,a1,a2,a3,())
def zzU:Code:=Code.part (bodyOf 158) [1,1,0,1,0,0]
def zjG (a0:Yj) (a1:Yb) (a2:Int):Option (Yg⊕Ys):=O.L 158 zuk zzU (a0,a1,a2,())
def zyA:Code:=Code.part (bodyOf 159) [1,1,0,1,0,0]
def ziI (a0:Yj) (a1:Ye) (a2 a3:Int):Option (YL⊕Ym):=O.L 159 zs4 zyA (a0,a1,a2,a3,())
def zw2:Code:=Code.part (bodyOf 267) [1,1,1,1,0,1,0,0]
def zgb (a0 a1:Yb) (a2:Yg) (a3:Yw) (a4 a5 a6 a7 a8:Int):Option ((Yw×Int×Int×Int×Unit)⊕((Int×Int×Unit)×(Unit))):=O.L 267 zqK zw2 (a0,a1,a2,a3,a4,a5,a6,a7,a8,())
def zfS:Code:=Code.part (bodyOf 194) [1,0,1,0,0]
def zD (a0:Ye) (a1:Yg×Yw×Yb×Unit) (a2 a3:Int):Option YC:=O.L 13893826 zca zfS (a0,a1,a2,a3,())
def zvQ:Code:=Code.part (bodyOf 100) [1,1,1,0,0]
def zcs (a0:Ye) (a1:Yg) (a2:Yw) (a3 a4:Yb):Option ((Unit)⊕Yv):=O.L 100 zoP zvQ (a0,a1,a2,a3,a4,())
def zuM:Code:=Code.part (bodyOf 100) [1,1,1,0,0,0,1,1,0,0,0]
def zdH (a0:Ye) (a1:Yg) (a2:Yw) (a3 a4:Yb) (a5:Int):Option ((Ye×Yg×Yw×Yb×Yb×Int×Unit)⊕Yv):=O.L 100 znN zuM (a0,a1,a2,a3,a4,a5,())
def zzv:Code:=Code.part (bodyOf 28) [1,1,0,1,0,0]
def zc8 (a0:Yg) (a1:Yw) (a2:Bool) (a3:Yt) (a4 a5:Int):Option (YK⊕YD):=O.L 28 zth zzv (a0,a1,a2,a3,a4,a5,())
def ztQ:Code:=Code.part (bodyOf 193) [1,1,0,1,0,0]
def zdm (a0 a1:Yb) (a2 a3:Int):Option Yy:=O.L 193 zmY ztQ (a0,a1,a2,a3,())
def zf7:Code:=Code.part (bodyOf 194) [1,0,1,0,0]
def zF (a0:Ye) (a1:Ya×Unit) (a2 a3:Int):Option YC:=O.L 12910786 zcg zf7 (a0,a1,a2,a3,())
def zwC:Code:=Code.part (bodyOf 149) [1,0,1,0,0]
def zdx (a0 a1:Ye) (a2 a3:Int):Option Yy:=O.L 149 zpe zwC (a0,a1,a2,a3,())
def zx4:Code:=Code.part (bodyOf 291) [1,0,1,0,0]
def zhI (a0:Yb) (a1:Int) (a2:Yg) (a3:Int):Option (YA⊕Yh):=O.L 291 zr1 zx4 (a0,a1,a2,a3,())
def zwq:Code:=Code.part (bodyOf 251) [1,1,1,0,1,0,0]
def zbv (a0:Yj) (a1:Yb) (a2:Yg) (a3:Int) (a4:Yb) (a5 a6:Int):Option ((Yj×Yb×Int×Unit)⊕Yk):=O.L 251 zpJ zwq (a0,a1,a2,a3,a4,a5,a6,())
def zvS:Code:=Code.part (bodyOf 198) [1,1,0,1,0,0]
def zbM (a0:Yj) (a1 a2:Ye) (a3:Yg) (a4:Ye) (a5 a6:Int):Option ((Unit)⊕Yk):=O.L 198 zoL zvS (a0,a1,a2,a3,a4,a5,a6,())
def ztR:Code:=Code.part (bodyOf 198) [1,1,0,1,0,0,1,1,0,0,1,1,1,0,0]
def zaO (a0:Yj) (a1 a2:Ye) (a3:Yg) (a4:Ya) (a5:Ye) (a6 a7 a8:Int):Option ((Yj×Ye×Ye×Yg×Ye×Int×Int×Unit)⊕Yk):=O.L 198 zm2 ztR (a0,a1,a2,a3,a4,a5,a6,a7,a8,())
def zBH:Code:=Code.part (bodyOf 199) [1,0,1,0,0]
def zlX (a0:Yj) (a1 a2:Int):Option (YL⊕Ym):=O.L 199 zv5 zBH (a0,a1,a2,())
def zeg:Code:=Code.part (bodyOf 145) [1,0,1,0,0]
def zk (a0:Yt) (a1:Yg×Ye×Unit) (a2 a3:Int):Option YC:=O.L 9896081 zbC zeg (a0,a1,a2,a3,())
def zfu:Code:=Code.part (bodyOf 145) [1,0,1,0,0]
def zt (a0:Yt) (a1:Yg×Unit) (a2 a3:Int):Option YC:=O.L 5701777 zbZ zfu (a0,a1,a2,a3,())
def zAH:Code:=Code.part (bodyOf 268) [1,1,0,0,0]
def zhW (a0:Yb) (a1:Int) (a2:Yg) (a3:Int):Option (YA⊕Yh):=O.L 268 zvG zAH (a0,a1,a2,a3,())
def zyp:Code:=Code.part (bodyOf 104) [1,0,1,0,0]
def zcK (a0:Ye) (a1:Yg) (a2:Ye) (a3 a4:Int):Option (YN⊕Yd):=O.L 104 zr5 zyp (a0,a1,a2,a3,a4,())
def zAE:Code:=Code.part (bodyOf 107) [1,0,1,0,0]
def zkq (a0 a1:Int) (a2:Yb) (a3 a4:Int):Option Yy:=O.L 107 zve zAE (a0,a1,a2,a3,a4,())
def zyj:Code:=Code.part (bodyOf 61) [1,0,1,0,0]
def zcM (a0:Yt) (a1:Yg) (a2:Yt) (a3 a4:Int):Option ((Yt×Yg×Unit)⊕Yd):=O.L 61 zr6 zyj (a0,a1,a2,a3,a4,())
def zAM:Code:=Code.part (bodyOf 302) [1,0,1,0,0]
def zhT (a0:Int) (a1:Yb) (a2 a3:Int):Option Yy:=O.L 302 zu3 zAM (a0,a1,a2,a3,())
def zxQ:Code:=Code.part (bodyOf 297) [1,1,1,0,1,0,0]
def zgK (a0:Yb) (a1 a2:Yj) (a3 a4:Int):Option (YL⊕Ym):=O.L 297 zri zxQ (a0,a1,a2,a3,a4,())
def zv1:Code:=Code.part (bodyOf 297) [1,1,1,0,1,0,0,1,1,0,0,1,1,0,1,0,0]
def zc4 (a0:Yb) (a1:Yj) (a2:Yb) (a3:Yj) (a4 a5:Int) (a6:Yb) (a7 a8:Int):Option ((Yb×Yj×Yb×Yj×Int×Int×Unit)⊕Ym):=O.L 297 zoQ zv1 (a0,a1,a2,a3,a4,a5,a6,a7,a8,())
def ztJ:Code:=Code.part (bodyOf 297) [1,1,1,0,1,0,0,1,1,0,0,1,1,0,1,0,0,1,1,0,0,1,1,0,1,0,0]
def zbG (a0:Yb) (a1:Yj) (a2:Yb) (a3:Int) (a4:Yj) (a5 a6:Int) (a7:Yb) (a8 a9 a10 a11:Int):Option ((Yb×Yj×Yb×Int×Yj×Int×Int×Yb×Int×Int×Unit)⊕Ym):=O.L 297 zmR ztJ (a0,a1,a2,a3,a4,a5,a6,a7,a8,a9,a10,a11,())
def zzm:Code:=Code.part (bodyOf 298) [1,1,0,1,0,0]
def ziv (a0:Yj) (a1:Ye) (a2 a3:Int):Option (YL⊕Ym):=O.L 298 zs1 zzm (a0,a1,a2,a3,())
def zxp:Code:=Code.part (bodyOf 253) [1,1,1,0,1,0,0]
def zgN (a0:Yj) (a1 a2:Ye) (a3 a4:Int):Option (YN⊕Yp):=O.L 253 zqY zxp (a0,a1,a2,a3,a4,())
def zAS:Code:=Code.part (bodyOf 174) [1,1,0,1,0,0]
def zkz (a0 a1:Ye) (a2 a3:Int):Option (YN⊕Yp):=O.L 174 zu6 zAS (a0,a1,a2,a3,())
def zzX:Code:=Code.part (bodyOf 217) [1,1,0,1,0,0]
def zjF (a0 a1:Yb) (a2 a3:Int):Option Yy:=O.L 217 zuC zzX (a0,a1,a2,a3,())
def zz5:Code:=Code.part (bodyOf 254) [1,1,0,1,0,0]
def ze8 (a0 a1:Ye) (a2 a3:Int):Option (YN⊕Yp):=O.L 254 zus zz5 (a0,a1,a2,a3,())
def zwJ:Code:=Code.part (bodyOf 254) [1,1,0,1,0,0,1,1,0,0,1,1,1,0,1,0,0]
def zcc (a0:Ye) (a1:Ya) (a2:Bool) (a3:Ye) (a4 a5 a6 a7:Int):Option ((Ye×Ya×Bool×Ye×Int×Int×Unit)⊕Yp):=O.L 254 zqx zwJ (a0,a1,a2,a3,a4,a5,a6,a7,())
def zzh:Code:=Code.part (bodyOf 260) [1,1,0,1,0,0]
def zgx (a0:Yj) (a1 a2:Yb) (a3 a4:Int):Option (Yg⊕Ys):=O.L 260 ztF zzh (a0,a1,a2,a3,a4,())
def zyO:Code:=Code.part (bodyOf 215) [1,1,0,1,0,0]
def ziR (a0:Yj) (a1 a2:Ye) (a3 a4:Int):Option (YN⊕Yp):=O.L 215 zs3 zyO (a0,a1,a2,a3,a4,())
def zAB:Code:=Code.part (bodyOf 123) [1,1,0,0,0]
def zkR (a0:Yb) (a1 a2:Int):Option (Yi⊕Ys):=O.L 123 zvd zAB (a0,a1,a2,())
def zz0:Code:=Code.part (bodyOf 330) [1,1,0,1,0,0]
def zjp (a0 a1:Yb) (a2 a3:Int):Option (Yg⊕Ys):=O.L 330 zuB zz0 (a0,a1,a2,a3,())
def zzO:Code:=Code.part (bodyOf 320) [1,1,0,1,0,0]
def zjx (a0:Yb) (a1:Ye) (a2 a3:Int):Option (Yg⊕Ys):=O.L 320 zuA zzO (a0,a1,a2,a3,())
def zxm:Code:=Code.part (bodyOf 320) [1,1,0,1,0,0,1,1,0,0,1,1,0,0]
def zex (a0:Yb) (a1:Ye) (a2 a3:Int) (a4:Yb) (a5 a6:Int):Option ((Yb×Ye×Int×Int×Unit)⊕Ys):=O.L 320 zqS zxm (a0,a1,a2,a3,a4,a5,a6,())
def zyY:Code:=Code.part (bodyOf 300) [1,1,0,1,0,0]
def ziA (a0:Int) (a1:Yb) (a2 a3:Int):Option (Yg⊕Ys):=O.L 300 ztD zyY (a0,a1,a2,a3,())
def zx6:Code:=Code.part (bodyOf 257) [1,1,1,0,1,0,0]
def zhO (a0:Yg) (a1:Int) (a2 a3:Ye) (a4 a5:Int):Option ((Yg×Ye×Unit)⊕YG):=O.L 257 zsb zx6 (a0,a1,a2,a3,a4,a5,())
def zyt:Code:=Code.part (bodyOf 301) [1,0,1,0,0]
def zgu (a0 a1:Yb) (a2:Yg) (a3:Yj) (a4 a5:Int):Option ((Yb×Yb×Yg×Unit)⊕Yd):=O.L 301 ztf zyt (a0,a1,a2,a3,a4,a5,())
def zy1:Code:=Code.part (bodyOf 303) [1,1,1,1,0,1,0,0]
def ziT (a0:Yj) (a1:Int) (a2:Yb) (a3 a4:Yj) (a5 a6:Int):Option ((Int×Yb×Yj×Unit)⊕Ym):=O.L 303 zsZ zy1 (a0,a1,a2,a3,a4,a5,a6,())
def zy8:Code:=Code.part (bodyOf 258) [1,1,1,0,0]
def zbg (a0 a1:Yb) (a2:Yg) (a3:Yj) (a4 a5:Yb):Option ((Unit)⊕Yk):=O.L 258 ztn zy8 (a0,a1,a2,a3,a4,a5,())
def zxE:Code:=Code.part (bodyOf 258) [1,1,1,0,0,0,1,1,0,0,0]
def zgI (a0 a1:Yb) (a2:Yg) (a3:Yj) (a4 a5:Yb) (a6:Int):Option ((Yb×Yb×Yg×Yj×Yb×Yb×Int×Unit)⊕Yk):=O.L 258 zru zxE (a0,a1,a2,a3,a4,a5,a6,())
def zyu:Code:=Code.part (bodyOf 334) [1,1,0,1,0,0]
def ziB (a0 a1:Int) (a2:Yb) (a3 a4:Int):Option (YA⊕Yh):=O.L 334 ztz zyu (a0,a1,a2,a3,a4,())
def zx8:Code:=Code.part (bodyOf 331) [1,0,1,0,0]
def zhA (a0 a1 a2:Yb) (a3 a4:Int):Option Yy:=O.L 331 zr4 zx8 (a0,a1,a2,a3,a4,())
def zwS:Code:=Code.part (bodyOf 321) [1,1,1,0,1,0,0]
def zgl (a0 a1:Yb) (a2 a3:Int):Option Yy:=O.L 321 zqs zwS (a0,a1,a2,a3,())
def zyM:Code:=Code.part (bodyOf 322) [1,1,1,0,1,0,0]
def ziQ (a0 a1 a2:Yj) (a3 a4:Int):Option (YL⊕Ym):=O.L 322 ztb zyM (a0,a1,a2,a3,a4,())
def zwF:Code:=Code.part (bodyOf 322) [1,1,1,0,1,0,0,1,1,0,0,1,1,0,1,0,0]
def zgj (a0 a1:Yj) (a2:Yb) (a3:Int) (a4:Yj) (a5 a6 a7 a8:Int):Option ((Yj×Yj×Yb×Int×Yj×Int×Int×Unit)⊕Ym):=O.L 322 zqt zwF (a0,a1,a2,a3,a4,a5,a6,a7,a8,())
def zz1:Code:=Code.part (bodyOf 323) [1,0,1,0,0]
def zjN (a0 a1:Yj) (a2 a3:Int):Option (YL⊕Yd):=O.L 323 zuF zz1 (a0,a1,a2,a3,())
def zxT:Code:=Code.part (bodyOf 323) [1,0,1,0,0,1,1,0,0,1,1,0,1,0,0]
def zez (a0:Yj) (a1:Yb) (a2:Bool) (a3:Yj) (a4 a5:Int) (a6:Yj) (a7 a8:Int):Option ((Yj×Bool×Yj×Int×Int×Unit)⊕Yd):=O.L 323 zrO zxT (a0,a1,a2,a3,a4,a5,a6,a7,a8,())
def zxv:Code:=Code.part (bodyOf 263) [1,0,1,0,0]
def zey (a0:Ye) (a1:Int) (a2:Ye) (a3 a4:Int):Option Yy:=O.L 263 zrF zxv (a0,a1,a2,a3,a4,())
def zwg:Code:=Code.part (bodyOf 201) [1,1,1,1,1,1,1,1,1,1,1,1,1,0,1,0,0]
def zft (a0:Yg) (a1:Yf) (a2 a3 a4 a5:Yb) (a6:Yj) (a7 a8 a9:Ye) (a10 a11:Int):Option (YH⊕Yr):=O.L 201 zpm zwg (a0,a1,a2,a3,a4,a5,a6,a7,a8,a9,a10,a11,())
def zwr:Code:=Code.part (bodyOf 201) [1,1,1,1,1,1,1,1,1,1,1,1,1,1,0,1,0,0]
def zfl (a0:Yg) (a1:Yf) (a2 a3 a4 a5:Yb) (a6:Yj) (a7 a8 a9:Ye) (a10 a11:Int):Option (YH⊕Yr):=O.L 201 zpF zwr (a0,a1,a2,a3,a4,a5,a6,a7,a8,a9,a10,a11,())
def zzc:Code:=Code.part (bodyOf 269) [1,1,0,0,0]
def zbz (a0:Yj) (a1 a2:Yb) (a3:Yg) (a4 a5:Int):Option (YL⊕Yk):=O.L 269 zs7 zzc (a0,a1,a2,a3,a4,a5,())
def zAN:Code:=Code.part (bodyOf 324) [1,1,1,1,0,1,0,0]
def zk1 (a0 a1 a2:Yb) (a3 a4:Int):Option ((Yb×Yb×Unit)⊕Yv):=O.L 324 zvM zAN (a0,a1,a2,a3,a4,())
def zzV:Code:=Code.part (bodyOf 307) [1,0,1,0,0]
def zfa (a0:Yb) (a1:Ye) (a2:Yg) (a3:Int):Option ((Unit)⊕Yu):=O.L 307 zup zzV (a0,a1,a2,a3,())
def zx0:Code:=Code.part (bodyOf 307) [1,0,1,0,0,1,0,0,1,1,0,0]
def zdR (a0:Yb) (a1:Ye) (a2:Yg) (a3:Int) (a4:Yb) (a5:Ye) (a6 a7:Int):Option ((Yb×Ye×Yg×Int×Unit)⊕Yu):=O.L 307 zrW zx0 (a0,a1,a2,a3,a4,a5,a6,a7,())
def zwK:Code:=Code.part (bodyOf 307) [1,0,1,0,0,1,0,0,1,1,0,0,1,1,0,0,1,1,0,0]
def zcS (a0:Yb) (a1:Ye) (a2:Yg) (a3:Int) (a4:Yb) (a5:Int) (a6:Ya) (a7:Int) (a8:Ye) (a9 a10:Int):Option ((Yb×Ye×Yg×Int×Yb×Ye×Int×Int×Unit)⊕Yu):=O.L 307 zqF zwK (a0,a1,a2,a3,a4,a5,a6,a7,a8,a9,a10,())
def zyl:Code:=Code.part (bodyOf 264) [1,1,1,0,0]
def zhP (a0:Ye) (a1:Yg) (a2:Yb) (a3:Int):Option ((Unit)⊕((Yb×Int×Unit)×(Unit))):=O.L 264 zrY zyl (a0,a1,a2,a3,())
def zxw:Code:=Code.part (bodyOf 204) [1,1,1,0,1,0,0]
def zgO (a0:Ye) (a1:Yg) (a2:Ye) (a3:Int) (a4:Ye) (a5 a6:Int):Option ((Ye×Int×Unit)⊕Yr):=O.L 204 zrG zxw (a0,a1,a2,a3,a4,a5,a6,())
def zzT:Code:=Code.part (bodyOf 156) [1,1,0,1,0,0]
def zg7 (a0:Yt) (a1:Yq) (a2:Int) (a3:Yb) (a4:Yg) (a5:Yt) (a6:Yb) (a7 a8:Int):Option ((Yt×Int×Yb×Yg×Yt×Unit)⊕YG):=O.L 156 zul zzT (a0,a1,a2,a3,a4,a5,a6,a7,a8,())
def zwm:Code:=Code.part (bodyOf 156) [1,1,1,1,1,0,0,1,1,1,1,1,1,1,1,1,0,1,0,1,0,0]
def zfx (a0:Yg) (a1:Yt) (a2:Ye) (a3:Yt) (a4 a5:Int):Option ((Yg×Yt×Ye×Unit)⊕YG):=O.L 156 zpy zwm (a0,a1,a2,a3,a4,a5,())
def zyn:Code:=Code.part (bodyOf 169) [1,1,0,1,0,0]
def zhy (a0:Int) (a1:Ye) (a2 a3:Int):Option (YA⊕Yh):=O.L 169 zrX zyn (a0,a1,a2,a3,())
def zxF:Code:=Code.part (bodyOf 108) [1,1,1,0,1,0,0]
def zgQ (a0:Yq) (a1:Int) (a2:Yb) (a3 a4:Int):Option (YA⊕Yh):=O.L 108 zro zxF (a0,a1,a2,a3,a4,())
def zz8:Code:=Code.part (bodyOf 126) [1,1,0,1,0,0]
def zju (a0:Int) (a1 a2:Yb) (a3 a4:Int):Option (Yg⊕Ys):=O.L 126 zuh zz8 (a0,a1,a2,a3,a4,())
def zwi:Code:=Code.part (bodyOf 166) [1,0,1,0,0]
def zds (a0 a1:Ye) (a2 a3:Int):Option Yy:=O.L 166 zpk zwi (a0,a1,a2,a3,())
def zuL:Code:=Code.part (bodyOf 166) [1,0,1,0,0,1,1,0,0,1,1,1,0,0]
def zbS (a0:Ye) (a1:Ya) (a2:Ye) (a3 a4:Int) (a5:Ye) (a6 a7:Int):Option ((Ye×Ye×Int×Int×Unit)⊕Yd):=O.L 166 zns zuL (a0,a1,a2,a3,a4,a5,a6,a7,())
def zzM:Code:=Code.part (bodyOf 270) [1,1,0,1,0,0]
def zjM (a0 a1:Yj) (a2 a3:Int):Option (YL⊕Ym):=O.L 270 zuf zzM (a0,a1,a2,a3,())
def zwG:Code:=Code.part (bodyOf 219) [1,1,0,1,0,0]
def zcl (a0 a1:Ye) (a2:Int) (a3:Yj) (a4:Yg) (a5:Ye) (a6 a7:Int):Option ((Unit)⊕Yk):=O.L 219 zqA zwG (a0,a1,a2,a3,a4,a5,a6,a7,())
def zvf:Code:=Code.part (bodyOf 219) [1,1,0,1,0,0,1,1,0,0,1,1,0,0]
def zaH (a0 a1:Ye) (a2:Int) (a3:Yj) (a4:Yg) (a5:Ya) (a6:Int) (a7:Ye) (a8 a9:Int):Option ((Ye×Ye×Int×Yj×Yg×Ye×Int×Int×Unit)⊕Yk):=O.L 219 znT zvf (a0,a1,a2,a3,a4,a5,a6,a7,a8,a9,())
def zzY:Code:=Code.part (bodyOf 167) [1,1,1,1,0,1,0,0]
def zjr (a0:Yj) (a1 a2:Int):Option (YL⊕Yk):=O.L 167 zun zzY (a0,a1,a2,())
def zwh:Code:=Code.part (bodyOf 105) [1,1,0,1,0,0]
def zfr (a0:Ye) (a1:Yg) (a2:Yt) (a3 a4:Int):Option Yy:=O.L 105 zpw zwh (a0,a1,a2,a3,a4,())
def zyx:Code:=Code.part (bodyOf 110) [1,1,0,1,0,0]
def ziz (a0:Yq) (a1 a2:Yb) (a3 a4:Int):Option (Yg⊕Ys):=O.L 110 zty zyx (a0,a1,a2,a3,a4,())
def zxl:Code:=Code.part (bodyOf 156) [1,1,0,1,0,0]
def zgY (a0:Yt) (a1:Yq) (a2:Int) (a3:Yb) (a4:Yg) (a5:Yt) (a6:Yb) (a7 a8:Int):Option ((Yt×Yq×Int×Yb×Yg×Yt×Unit)⊕(Yn×(Yq×Unit))):=O.L 4294967452 zrh zxl (a0,a1,a2,a3,a4,a5,a6,a7,a8,())
def zuX:Code:=Code.part (bodyOf 156) [1,1,1,1,1,0,0,1,1,1,1,1,1,1,1,1,0,1,0,1,0,0]
def zdI (a0:Yq) (a1:Yg) (a2:Yt) (a3:Ye) (a4:Yt) (a5 a6:Int):Option ((Yq×Yg×Yt×Ye×Unit)⊕(Yn×(Yq×Unit))):=O.L 4294967452 znz zuX (a0,a1,a2,a3,a4,a5,a6,())
def zt5:Code:=Code.part (bodyOf 177) [1,1,1,0,1,0,0]
def zdk (a0:Yz) (a1:Int) (a2:Yb) (a3:Ye) (a4 a5:Int):Option ((Yz×Int×Yb×Ye×Unit)⊕(YA×Yl)):=O.L 177 zmS zt5 (a0,a1,a2,a3,a4,a5,())
def zxx:Code:=Code.part (bodyOf 225) [1,1,1,0,1,0,0]
def zgL (a0:Ye) (a1:Yg) (a2:Yb) (a3:List Yf) (a4 a5:Int):Option ((Yb×(List Yf)×Unit)⊕YB):=O.L 225 zrC zxx (a0,a1,a2,a3,a4,a5,())
def zwv:Code:=Code.part (bodyOf 225) [1,1,1,0,1,0,0,1,1,0,0,1,1,1,0,0]
def zfj (a0:Ye) (a1:Yg) (a2:Yb) (a3:List Yf) (a4 a5 a6 a7:Int):Option ((Ye×Yg×Yb×(List Yf)×Int×Int×Unit)⊕YB):=O.L 225 zpu zwv (a0,a1,a2,a3,a4,a5,a6,a7,())
def zu1:Code:=Code.part (bodyOf 225) [1,1,1,0,1,0,0,1,1,0,0,1,1,1,0,0,1,0,0,1,0,0]
def zed (a0:Ye) (a1:Yg) (a2:Yb) (a3:List Yf) (a4 a5 a6 a7 a8 a9:Int):Option ((Ye×Yg×Yb×(List Yf)×Int×Int×Int×Int×Unit)⊕YB):=O.L 225 znU zu1 (a0,a1,a2,a3,a4,a5,a6,a7,a8,a9,())
def ztd:Code:=Code.part (bodyOf 225) [1,1,1,0,1,0,0,1,1,0,0,1,1,1,0,0,1,0,0,1,0,0,1,1,0,0,1,1,0,0]
def zcY (a0:Ye) (a1:Yg) (a2:Yb) (a3:List Yf) (a4 a5 a6 a7 a8 a9 a10 a11:Int):Option ((Ye×Yg×Yb×(List Yf)×Int×Int×Int×Int×Int×Int×Unit)⊕YB):=O.L 225 zmc ztd (a0,a1,a2,a3,a4,a5,a6,a7,a8,a9,a10,a11,())
def zy4:Code:=Code.part (bodyOf 282) [1,1,1,1,0,1,0,0]
def ziF (a0 a1:Ye) (a2 a3:Int):Option Yy:=O.L 282 ztl zy4 (a0,a1,a2,a3,())
def zuV:Code:=Code.part (bodyOf 226) [1,1,1,0,1,0,0]
def zdJ (a0:Yb×Yt×Int×Yq×Value×Yb×Unit) (a1:Yc) (a2 a3:Int):Option (((Yb×Yt×Int×Yq×Value×Yb×Unit)×Yc×Unit)⊕Yo):=O.L 226 znD zuV (a0,a1,a2,a3,())
def zzN:Code:=Code.part (bodyOf 283) [1,1,0,1,0,0]
def zjK (a0 a1:Ye) (a2:Yg) (a3:List Yf) (a4 a5:Int):Option (((List Yf)×Unit)⊕YE):=O.L 283 zux zzN (a0,a1,a2,a3,a4,a5,())
def zxL:Code:=Code.part (bodyOf 283) [1,1,0,1,0,0,1,1,0,0,1,1,0,0]
def zgT (a0 a1:Ye) (a2:Yg) (a3:List Yf) (a4 a5 a6 a7:Int):Option ((Ye×Ye×Yg×(List Yf)×Int×Int×Unit)⊕YE):=O.L 283 zrp zxL (a0,a1,a2,a3,a4,a5,a6,a7,())
def zwP:Code:=Code.part (bodyOf 283) [1,1,0,1,0,0,1,1,0,0,1,1,0,0,1,0,0,1,0,0]
def zgo (a0 a1:Ye) (a2:Yg) (a3:List Yf) (a4 a5 a6 a7:Int) (a8:Ye) (a9 a10:Int):Option ((Ye×Ye×Yg×(List Yf)×Int×Int×Int×Int×Unit)⊕YE):=O.L 283 zqN zwP (a0,a1,a2,a3,a4,a5,a6,a7,a8,a9,a10,())
def zvt:Code:=Code.part (bodyOf 283) [1,1,0,1,0,0,1,1,0,0,1,1,0,0,1,0,0,1,0,0,1,1,0,0,1,1,0,0]
def zea (a0 a1:Ye) (a2:Yg) (a3:List Yf) (a4 a5 a6:Int) (a7:Ya) (a8 a9 a10:Int) (a11:Ye) (a12 a13:Int):Option ((Ye×Ye×Yg×(List Yf)×Int×Int×Int×Int×Ye×Int×Int×Unit)⊕YE):=O.L 283 zom zvt (a0,a1,a2,a3,a4,a5,a6,a7,a8,a9,a10,a11,a12,a13,())
def ztM:Code:=Code.part (bodyOf 283) [1,1,0,1,0,0,1,1,0,0,1,1,0,0,1,0,0,1,0,0,1,1,0,0,1,1,0,0,1,0,0,1,1,0,0]
def zdl (a0 a1:Ye) (a2:Yg) (a3:List Yf) (a4 a5 a6:Int) (a7:Ya) (a8 a9 a10:Int) (a11:Ye) (a12 a13 a14 a15:Int):Option ((Ye×Ye×Yg×(List Yf)×Int×Int×Int×Ya×Int×Int×Int×Ye×Int×Int×Unit)⊕YE):=O.L 283 zm3 ztM (a0,a1,a2,a3,a4,a5,a6,a7,a8,a9,a10,a11,a12,a13,a14,a15,())
def zxe:Code:=Code.part (bodyOf 227) [1,0,1,0,0]
def zf2 (a0:Yb×Yt×Int×Yq×Value×Yb×Unit) (a1 a2:Int) (a3:List Yf) (a4 a5:Int):Option (((Yb×Yt×Int×Yq×Value×Yb×Unit)×Unit)⊕Yo):=O.L 227 zqw zxe (a0,a1,a2,a3,a4,a5,())
def zw8:Code:=Code.part (bodyOf 178) [1,1,0,1,0,0]
def zgg (a0:Yz) (a1:Int) (a2:List Yf) (a3:Yb) (a4 a5:Int):Option ((Yz×Int×(List Yf)×Unit)⊕(YK×Yl)):=O.L 178 zqG zw8 (a0,a1,a2,a3,a4,a5,())
def zwu:Code:=Code.part (bodyOf 178) [1,1,1,0,1,0,0]
def zfb (a0:Yz) (a1:Int) (a2:List Yf) (a3 a4:Int):Option ((Yz×Int×Unit)⊕(YK×Yl)):=O.L 178 zpi zwu (a0,a1,a2,a3,a4,())
def zwj:Code:=Code.part (bodyOf 178) [1,1,1,1,1,0,1,0,0]
def zdu (a0:Yz) (a1 a2 a3:Int):Option ((Yz×Unit)⊕(YK×Yl)):=O.L 178 zpt zwj (a0,a1,a2,a3,())
def zuG:Code:=Code.part (bodyOf 127) [1,1,1,1,1,1,0,1,0,0]
def zdE (a0:Yz) (a1:Int) (a2:Ye) (a3:Yt) (a4 a5:Int):Option ((Yz×Int×Ye×Yt×Unit)⊕(YK×Yl)):=O.L 127 znP zuG (a0,a1,a2,a3,a4,a5,())
def zzk:Code:=Code.part (bodyOf 63) [1,1,0,1,0,0]
def ziE (a0:Yt) (a1:Int) (a2:Yg) (a3:YF) (a4:Yz) (a5 a6:Int):Option ((Int×YF×Yz×Unit)⊕((YF×Unit)×(Unit))):=O.L 63 ztr zzk (a0,a1,a2,a3,a4,a5,a6,())
def zyL:Code:=Code.part (bodyOf 63) [1,1,1,1,0,0]
def ziM (a0:Int) (a1:YF) (a2:Yz) (a3:Int):Option ((Unit)⊕((YF×Unit)×(Unit))):=O.L 63 zsY zyL (a0,a1,a2,a3,())
def zvT:Code:=Code.part (bodyOf 183) [1,1,1,1,1,1,1,0,1,0,0]
def zal (a0:Yi) (a1 a2:Int) (a3:Yg) (a4:Yb) (a5:Int):Option ((Yi×Yb×Unit)⊕(Yg×Yx)):=O.L 183 zoS zvT (a0,a1,a2,a3,a4,a5,())
def zvV:Code:=Code.part (bodyOf 161) [1,1,0,1,0,0]
def zeH (a0:Yi) (a1:Yg) (a2:Ye) (a3:Int):Option ((Yi×Yg×Ye×Unit)⊕(YN×Yx)):=O.L 161 zoO zvV (a0,a1,a2,a3,())
def zuK:Code:=Code.part (bodyOf 161) [1,1,1,1,1,0,1,0,1,0,0,0]
def zdO (a0:Yi) (a1:Yg) (a2:Ye):Option ((Yi×Ye×Unit)⊕(YN×Yx)):=O.L 161 znB zuK (a0,a1,a2,())
def zvB:Code:=Code.part (bodyOf 102) [1,1,0,1,0,0]
def zeb (a0:Yi) (a1:Yg) (a2:Yt) (a3:Int):Option ((Yi×Yt×Unit)⊕((Yt×Unit)×Yx)):=O.L 102 zop zvB (a0,a1,a2,a3,())
def zuP:Code:=Code.part (bodyOf 77) [1,1,1,1,0,1,0,0]
def zdM (a0:Yi) (a1 a2:Yg) (a3:Yt) (a4:Int):Option ((Yi×Yg×Yg×Yt×Unit)⊕((Yg×Yt×Unit)×Yx)):=O.L 77 znG zuP (a0,a1,a2,a3,a4,())
def ztE:Code:=Code.part (bodyOf 77) [1,1,1,1,0,1,0,0,1,0,0,1,0,1,0,0]
def zcZ (a0:Yi) (a1 a2:Yg) (a3:Yt) (a4:Int) (a5:Ye) (a6:Int):Option ((Yi×Yg×Yg×Yt×Int×Ye×Unit)⊕((Yg×Yt×Unit)×Yx)):=O.L 77 zmb ztE (a0,a1,a2,a3,a4,a5,a6,())
def zeL:Code:=Code.part (bodyOf 145) [1,0,1,0,0]
def zn (a0:Yt) (a1:Yg×Unit) (a2 a3:Int):Option YC:=O.L 8650897 zbL zeL (a0,a1,a2,a3,())
def ze9:Code:=Code.part (bodyOf 143) [1,0,1,0,0]
def zq (a0:Yq) (a1:Yg×Unit) (a2 a3:Int):Option YC:=O.L 10158223 zbU ze9 (a0,a1,a2,a3,())
def zlf:Code:=Code.part (bodyOf 179) [1,0,1,0,0]
def zaB (a0:Yb) (a1:Yq×Unit) (a2 a3:Int):Option YC:=O.L 10223795 zeP zlf (a0,a1,a2,a3,())
def zyZ:Code:=Code.part (bodyOf 287) [1,1,1,0,1,0,0]
def ziw (a0:List (Int×Int)) (a1 a2:Yj) (a3 a4:Int):Option (YL⊕Ym):=O.L 287 zto zyZ (a0,a1,a2,a3,a4,())
def zxy:Code:=Code.part (bodyOf 287) [1,1,1,0,1,0,0,1,1,0,0,1,1,1,0,0]
def zgW (a0:List (Int×Int)) (a1:Yj) (a2:Int) (a3:Yj) (a4 a5:Int) (a6:Yb) (a7 a8:Int):Option (((List (Int×Int))×Yj×Yj×Int×Int×Unit)⊕Ym):=O.L 287 zre zxy (a0,a1,a2,a3,a4,a5,a6,a7,a8,())
def zhQ:Code:=Code.part (bodyOf 194) [1,0,1,0,0]
def zY (a0:Ye) (a1:Ya×Unit) (a2 a3:Int):Option YC:=O.L 18940098 zcW zhQ (a0,a1,a2,a3,())
def zBF:Code:=Code.part (bodyOf 235) [1,1,0,1,0,0]
def zg3 (a0 a1:Ye) (a2 a3:Int):Option (YN⊕Yp):=O.L 235 zwc zBF (a0,a1,a2,a3,())
def ztp:Code:=Code.part (bodyOf 292) [1,1,0,1,0,0]
def zcX (a0:Yj) (a1:Int) (a2:Yj) (a3 a4:Int):Option ((Yj×Int×Unit)⊕Ys):=O.L 292 zl7 ztp (a0,a1,a2,a3,a4,())
def zso:Code:=Code.part (bodyOf 292) [1,1,1,1,0,1,0,0]
def zcJ (a0:Yb) (a1:Yj) (a2 a3:Int):Option (Yg⊕Ys):=O.L 292 zlP zso (a0,a1,a2,a3,())
def zAq:Code:=Code.part (bodyOf 243) [1,1,0,1,0,0]
def zic (a0:Yj) (a1 a2:Yb) (a3 a4:Int):Option (Yg⊕Yv):=O.L 243 zvI zAq (a0,a1,a2,a3,a4,())
def zAD:Code:=Code.part (bodyOf 332) [1,1,0,1,0,0]
def zkr (a0 a1:Int) (a2:Yb) (a3 a4:Int):Option (YA⊕Yh):=O.L 332 zvs zAD (a0,a1,a2,a3,a4,())
def zwE:Code:=Code.part (bodyOf 326) [1,0,1,0,0]
def zf9 (a0 a1:Yb) (a2:Int):Option Yy:=O.L 326 zqu zwE (a0,a1,a2,())
def zxc:Code:=Code.part (bodyOf 317) [1,1,1,0,1,0,0]
def zga (a0 a1:Yb) (a2 a3:Int):Option Yy:=O.L 317 zqz zxc (a0,a1,a2,a3,())
def zvK:Code:=Code.part (bodyOf 314) [1,1,1,1,1,0,1,0,0]
def zcP (a0 a1:Yb) (a2 a3:Int):Option (Yg⊕Yv):=O.L 314 zn4 zvK (a0,a1,a2,a3,())
def zxO:Code:=Code.part (bodyOf 284) [1,0,1,0,0]
def zde (a0:Yb) (a1:Ye) (a2:Yg) (a3:Int):Option ((Unit)⊕Yu):=O.L 284 zqX zxO (a0,a1,a2,a3,())
def zwf:Code:=Code.part (bodyOf 284) [1,0,1,0,0,1,0,0,1,1,0,0]
def zcB (a0:Yb) (a1:Ye) (a2:Yg) (a3:Int) (a4:Yb) (a5:Ye) (a6 a7:Int):Option ((Yb×Ye×Yg×Int×Unit)⊕Yu):=O.L 284 zpc zwf (a0,a1,a2,a3,a4,a5,a6,a7,())
def zvp:Code:=Code.part (bodyOf 284) [1,0,1,0,0,1,0,0,1,1,0,0,1,1,0,0,1,1,0,0]
def zb9 (a0:Yb) (a1:Ye) (a2:Yg) (a3:Int) (a4:Yb) (a5:Int) (a6:Ya) (a7:Ye) (a8 a9 a10:Int):Option ((Yb×Ye×Yg×Int×Yb×Ye×Int×Int×Unit)⊕Yu):=O.L 284 zn9 zvp (a0,a1,a2,a3,a4,a5,a6,a7,a8,a9,a10,())
def zwn:Code:=Code.part (bodyOf 228) [1,1,1,0,0]
def zfg (a0:Yb) (a1:Ye) (a2:Yg) (a3:Int):Option ((Unit)⊕((Yb×Int×Unit)×(Unit))):=O.L 228 zpj zwn (a0,a1,a2,a3,())
def zrT:Code:=Code.part (bodyOf 181) [1,1,1,0,1,0,0]
def zcC (a0 a1:Ye) (a2:Yg) (a3:List YJ) (a4 a5 a6:Int):Option ((Ye×(List YJ)×Int×Unit)⊕Yr):=O.L 181 zlh zrT (a0,a1,a2,a3,a4,a5,a6,())
def zAT:Code:=Code.part (bodyOf 289) [1,1,0,1,0,0]
def zk2 (a0:Int) (a1:Yb) (a2 a3:Int):Option (Yg⊕Ys):=O.L 289 zvu zAT (a0,a1,a2,a3,())
def zhr:Code:=Code.part (bodyOf 266) [1,0,1,0,0]
def zR (a0:Yj) (a1:Yg×Unit) (a2 a3:Int):Option YC:=O.L 20709642 zcH zhr (a0,a1,a2,a3,())
def zwx:Code:=Code.part (bodyOf 239) [1,1,1,1,0,1,0,0]
def zdw (a0:Ye) (a1:Yg) (a2:Int) (a3:List YJ) (a4 a5:Int):Option ((Ye×Yg×(List YJ)×Unit)⊕YG):=O.L 239 zpK zwx (a0,a1,a2,a3,a4,a5,())
def zwT:Code:=Code.part (bodyOf 240) [1,1,0,0]
def zbh (a0 a1:Yb) (a2:Yg) (a3:Yj):Option ((Unit)⊕Yk):=O.L 240 zqH zwT (a0,a1,a2,a3,())
def zwB:Code:=Code.part (bodyOf 240) [1,1,0,0,0,1,0,0,0]
def zfd (a0 a1:Yb) (a2:Yg) (a3:Yj) (a4:Int):Option ((Yb×Yb×Yg×Yj×Int×Unit)⊕Yk):=O.L 240 zpq zwB (a0,a1,a2,a3,a4,())
def zud:Code:=Code.part (bodyOf 240) [1,1,0,0,0,1,1,1,1,1,1,1,1,1,1,1,1,0,1,0,0]
def zO (a0 a1:Yb) (a2:Yg) (a3:Yj) (a4:Int) (a5:Yb) (a6:Yj) (a7 a8:Int):Option ((Yb×Yb×Yg×Yj×Int×Yb×Unit)⊕Yk):=O.L 240 zm4 zud (a0,a1,a2,a3,a4,a5,a6,a7,a8,())
def zwz:Code:=Code.part (bodyOf 242) [1,1,0,1,0,0]
def zfk (a0:Yj) (a1:Ye) (a2:List YJ) (a3 a4:Int):Option ((Ye×(List YJ)×Unit)⊕YG):=O.L 242 zpz zwz (a0,a1,a2,a3,a4,())
def znQ:Code:=Code.part (bodyOf 245) [1,1,0,1,0,0]
def zbn (a0:Yt) (a1:Int) (a2:Yt) (a3 a4:Int):Option ((Yt×Int×Unit)⊕Yp):=O.L 245 zhb znQ (a0,a1,a2,a3,a4,())
def znq:Code:=Code.part (bodyOf 245) [1,1,1,1,0,1,0,0]
def zbf (a0:Ye) (a1:Yt) (a2 a3:Int):Option (YN⊕Yp):=O.L 245 zgP znq (a0,a1,a2,a3,())
def ziP:Code:=Code.part (bodyOf 266) [1,0,1,0,0]
def zad (a0:Yj) (a1:Yg) (a2 a3:Int):Option YC:=O.L 21889290 zc6 ziP (a0,a1,a2,a3,())
def zxi:Code:=Code.part (bodyOf 329) [1,0,1,0,0]
def zgV (a0 a1:Yj) (a2 a3:Int):Option (YL⊕Yd):=O.L 329 zrQ zxi (a0,a1,a2,a3,())
def zhF:Code:=Code.part (bodyOf 266) [1,0,1,0,0]
def zi (a0:Yj) (a1:Yg) (a2 a3:Int):Option YC:=O.L 21496074 zcN zhF (a0,a1,a2,a3,())
def zvb:Code:=Code.part (bodyOf 318) [1,1,1,0,1,0,0]
def zd9 (a0 a1 a2:Yj) (a3 a4:Int):Option ((Yj×Yj×Unit)⊕Yh):=O.L 318 zn2 zvb (a0,a1,a2,a3,a4,())
def zxP:Code:=Code.part (bodyOf 248) [1,0,1,0,0]
def zeF (a0:Ye) (a1:Int) (a2:Ye) (a3 a4:Int):Option Yy:=O.L 248 zrt zxP (a0,a1,a2,a3,a4,())
def zuO:Code:=Code.part (bodyOf 141) [1,1,1,0,1,0,1,1,1,1,1,1,1,1,1,0,1,1,0,1,0,0]
def zdB (a0:Yg) (a1:Yb) (a2:Yq×Yb×Unit) (a3:Ye) (a4:Int):Option ((Yg×(Yq×Yb×Unit)×Ye×Unit)⊕YG):=O.L 141 znH zuO (a0,a1,a2,a3,a4,())
def zzn:Code:=Code.part (bodyOf 96) [1,0,1,0,0]
def zc9 (a0:Yq) (a1:Yg) (a2:Yq) (a3 a4:Int):Option ((Yq×Yg×Unit)⊕Yd):=O.L 96 zs0 zzn (a0,a1,a2,a3,a4,())
def zxU:Code:=Code.part (bodyOf 213) [1,1,0,1,0,0]
def zbW (a0:Yg) (a1:Yj) (a2 a3:Int):Option Yy:=O.L 213 zrL zxU (a0,a1,a2,a3,())
def zwy:Code:=Code.part (bodyOf 163) [1,1,0,1,0,0]
def zfH (a0:Yi) (a1:Yg) (a2:Yj) (a3:Int):Option ((Yi×Yj×Unit)⊕(YL×Yx)):=O.L 163 zpg zwy (a0,a1,a2,a3,())
def zww:Code:=Code.part (bodyOf 35) [1,1,0,1,0,0]
def zfe (a0:Ye) (a1:Yt) (a2:Yg) (a3:Yt) (a4 a5:Int):Option ((Ye×Yt×Yg×Unit)⊕YD):=O.L 35 zpl zww (a0,a1,a2,a3,a4,a5,())
def zvL:Code:=Code.part (bodyOf 36) [1,1,1,1,0,1,0,0]
def zd8 (a0:Yg) (a1:Yi) (a2:Yg) (a3:Yq) (a4:Yb) (a5:Int):Option ((Yg×Yi×Yg×Yq×Yb×Unit)⊕((Yg×Yq×Yb×Int×Unit)×(Unit))):=O.L 36 zn8 zvL (a0,a1,a2,a3,a4,a5,())
def zzZ:Code:=Code.part (bodyOf 168) [1,1,0,1,0,0]
def zjo (a0:Int) (a1:Yj) (a2 a3:Int):Option (YA⊕Yh):=O.L 168 zuE zzZ (a0,a1,a2,a3,())
def zzP:Code:=Code.part (bodyOf 106) [1,1,0,1,0,0]
def zgZ (a0:Yq) (a1:Yb) (a2 a3:Int) (a4:Yb) (a5 a6:Int):Option (YA⊕Yh):=O.L 106 zui zzP (a0,a1,a2,a3,a4,a5,a6,())
def zyG:Code:=Code.part (bodyOf 109) [1,1,0,1,0,0]
def ziK (a0:Yq) (a1 a2:Yb) (a3 a4:Int):Option (Yg⊕Ys):=O.L 109 zts zyG (a0,a1,a2,a3,a4,())
def zB0:Code:=Code.part (bodyOf 42) [1,0,1,0,0]
def zmQ (a0:Int) (a1:Yb) (a2 a3:Int):Option Yy:=O.L 42 zw9 zB0 (a0,a1,a2,a3,())
def zxC:Code:=Code.part (bodyOf 5) [1,1,1,1,1,1,0,1,0,1,1,0,1,0,0]
def zbw (a0 a1:Yb) (a2:Yg) (a3:Yq) (a4:Yc) (a5:Yw) (a6 a7:Bool) (a8:Yb) (a9 a10:Int):Option ((Yb×Yb×Yg×Yc×Yw×Bool×Bool×Unit)⊕Yd):=O.L 5 zrJ zxC (a0,a1,a2,a3,a4,a5,a6,a7,a8,a9,a10,())
def zoZ (a0:Yg×Yt×(Int×Yq×Unit×Unit)×Yb×Unit) (a1:Yc):Option (YK×YI):=hidC (fun u=>O.H 224 (infl (E1.ps 224) (a0,a1,()) u)) (fun y u=>(y.1,inflB (E1.io 224) (E1.ps 224) y.2 u))
theorem zyE (a0 a1) {y:YK×YI} (h: ∀u:Value,u.oneCell'=true->zgv M ((a0.1.1,()),a0.2.1,(a0.2.2.1.1,a0.2.2.1.2.1,u,()),a0.2.2.2.1,()) a1=some (y.1,(((y.2.1.1.1,()),y.2.1.2.1,(y.2.1.2.2.1.1,y.2.1.2.2.1.2.1,u,()),y.2.1.2.2.2.1,()),()))):zoZ M2 a0 a1=some y:=
  zCr (fun y y' h=>Prod.ext (Prod.mk.inj h).1 (zy9 (E1.io 224) (E1.ps 224) _ _ _ (Prod.mk.inj h).2)) (fun u hu=>(by kernel_rfl:M2.H 224 (infl (E1.ps 224) (a0,a1,()) u)=zgv M ((a0.1.1,()),a0.2.1,(a0.2.2.1.1,a0.2.2.1.2.1,u,()),a0.2.2.2.1,()) a1).trans (h u hu))
def zjf (a0:Yg×Yt×(Int×Yq×Unit×Unit)×Yb×Unit) (a1:Int) (a2 a3:Yb):Option (YK×YI):=hidC (fun u=>O.H 226 (infl (E1.ps 226) (a0,a1,a2,a3,()) u)) (fun y u=>(y.1,inflB (E1.io 226) (E1.ps 226) y.2 u))
theorem zwW (a0 a1 a2 a3) {y:YK×YI} (h: ∀u:Value,u.oneCell'=true->zd0 M ((a0.1.1,()),a0.2.1,(a0.2.2.1.1,a0.2.2.1.2.1,u,()),a0.2.2.2.1,()) a1 a2 a3=some (y.1,(((y.2.1.1.1,()),y.2.1.2.1,(y.2.1.2.2.1.1,y.2.1.2.2.1.2.1,u,()),y.2.1.2.2.2.1,()),()))):zjf M2 a0 a1 a2 a3=some y:=
  zCr (fun y y' h=>Prod.ext (Prod.mk.inj h).1 (zy9 (E1.io 226) (E1.ps 226) _ _ _ (Prod.mk.inj h).2)) (fun u hu=>(by kernel_rfl:M2.H 226 (infl (E1.ps 226) (a0,a1,a2,a3,()) u)=zd0 M ((a0.1.1,()),a0.2.1,(a0.2.2.1.1,a0.2.2.1.2.1,u,()),a0.2.2.2.1,()) a1 a2 a3).trans (h u hu))
def zlC (a0:Yg×Yt×(Int×Yq×Unit×Unit)×Yb×Unit) (a1 a2:Int):Option (YK×YI):=hidC (fun u=>O.H 227 (infl (E1.ps 227) (a0,a1,a2,()) u)) (fun y u=>(y.1,inflB (E1.io 227) (E1.ps 227) y.2 u))
theorem zzi (a0 a1 a2) {y:YK×YI} (h: ∀u:Value,u.oneCell'=true->ziD M ((a0.1.1,()),a0.2.1,(a0.2.2.1.1,a0.2.2.1.2.1,u,()),a0.2.2.2.1,()) a1 a2=some (y.1,(((y.2.1.1.1,()),y.2.1.2.1,(y.2.1.2.2.1.1,y.2.1.2.2.1.2.1,u,()),y.2.1.2.2.2.1,()),()))):zlC M2 a0 a1 a2=some y:=
  zCr (fun y y' h=>Prod.ext (Prod.mk.inj h).1 (zy9 (E1.io 227) (E1.ps 227) _ _ _ (Prod.mk.inj h).2)) (fun u hu=>(by kernel_rfl:M2.H 227 (infl (E1.ps 227) (a0,a1,a2,()) u)=ziD M ((a0.1.1,()),a0.2.1,(a0.2.2.1.1,a0.2.2.1.2.1,u,()),a0.2.2.2.1,()) a1 a2).trans (h u hu))
end
end Go.Proofs.YtchkojfhcdcnmaaGreatMd.Ev
