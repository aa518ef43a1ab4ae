/- Lemmas. -/
import Derived.WalkKit
set_option linter.all false
namespace Go.Proofs.YtommaegelgilnaaGreatDoor
open Go.RowKit
theorem nr:(∀(a:Act)(d:Option Tmp)(v:Value),a.put d v=match d with|some d=>{a with tmps:=a.tmps.setIfInBounds d v}|none=>a)/\
  (∀(α:Type)(l:List α)(i:Nat)(x:α),l.toArray.setIfInBounds i x=(l.set i x).toArray)/\(∀(α:Type)(a:α)(l:List α)(i:Nat)(x:α),(a::l).set (i+1) x=a::l.set i x)/\
  ∀(α:Type)(a:α)(l:List α)(x:α),(a::l).set 0 x=x::l:=⟨λ_ _ _=>rfl,λ_ _ _ _=>List.setIfInBounds_toArray ..,λ_ _ _ _ _=>rfl,λ_ _ _ _=>rfl⟩
theorem nq:(∀(α:Type)(l:List α)(i:Nat)(h:i<l.toArray.size),l.toArray[i]=l[i]'(by simpa using h))/\(∀(α:Type)(a:α)(l:List α)(h:0<(a::l).length),(a::l)[0]=a)/\
  (∀(α:Type)(a:α)(l:List α)(i:Nat)(h:i+1<(a::l).length),(a::l)[i+1]=l[i]'(by simpa using h))/\
  (∀(a:Act)(d:Option Tmp)(v:Value),a.put d v=match d with|some d=>{a with tmps:=a.tmps.setIfInBounds d v}|none=>a)/\
  (∀(α:Type)(l:List α)(i:Nat)(x:α),l.toArray.setIfInBounds i x=(l.set i x).toArray)/\(∀(α:Type)(a:α)(l:List α)(i:Nat)(x:α),(a::l).set (i+1) x=a::l.set i x)/\
  ∀(α:Type)(a:α)(l:List α)(x:α),(a::l).set 0 x=x::l:=⟨λ_ _ _ _=>rfl,λ_ _ _ _=>rfl,λ_ _ _ _ _=>rfl,nr⟩
theorem brd{n:Nat}{w w':World}{p:Addr}{v:Value}(h:Below n w w')(e:w.cell? p=some v)(a:p.block<n):w'.cell? p=some v:=(h.cell a).trans e
end Go.Proofs.YtommaegelgilnaaGreatDoor
