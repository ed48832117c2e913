/-
  Small laws with default proofs.
-/
namespace Go.Proofs
theorem zo {p:Prop} (h:p:=by omega):p:=h
theorem zi {a p:Prop} (x:a) (h:a→p:=by intro;omega):p:=h x
theorem zj {a b p:Prop} (x:a) (y:b) (h:a→b→p:=by intros;omega):p:=h x y
theorem zd {p:Prop} (h:p:=by decide):p:=h
theorem vA {α:Type} {a b:List α}:a.append b=a++b:=rfl
theorem vBa {α:Type} {x:α} {a b:List α}:x::a++b=x::(a++b):=rfl
theorem vC {α:Type} {b:List α}:[]++b=b:=rfl
end Go.Proofs
namespace Te
theorem zo {p:Prop} (h:p:=by omega):p:=h
theorem zi {a p:Prop} (x:a) (h:a→p:=by intro;omega):p:=h x
theorem zj {a b p:Prop} (x:a) (y:b) (h:a→b→p:=by intros;omega):p:=h x y
theorem zd {p:Prop} (h:p:=by decide):p:=h
end Te
namespace Tw
theorem zo {p:Prop} (h:p:=by omega):p:=h
theorem zi {a p:Prop} (x:a) (h:a→p:=by intro;omega):p:=h x
theorem zj {a b p:Prop} (x:a) (y:b) (h:a→b→p:=by intros;omega):p:=h x y
theorem zd {p:Prop} (h:p:=by decide):p:=h
end Tw
namespace Go.Proofs.YtfpbmpllildbaaaGreatDoor
theorem zo {p:Prop} (h:p:=by omega):p:=h
theorem zi {a p:Prop} (x:a) (h:a→p:=by intro;omega):p:=h x
theorem zj {a b p:Prop} (x:a) (y:b) (h:a→b→p:=by intros;omega):p:=h x y
theorem zd {p:Prop} (h:p:=by decide):p:=h
end Go.Proofs.YtfpbmpllildbaaaGreatDoor
