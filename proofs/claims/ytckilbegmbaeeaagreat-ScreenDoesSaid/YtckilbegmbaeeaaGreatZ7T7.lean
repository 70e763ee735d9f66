/- Walks. -/
import Derived.Test.YtckilbegmbaeeaaGreatZ712
namespace Go.Proofs.YtckilbegmbaeeaaGreat.Z7
open Go Go.RowKit Go.Proofs.YtckilbegmbaeeaaGreat.SL
set_option linter.unusedVariables false
set_option maxHeartbeats 20000000
set_option maxRecDepth 100000
set_option linter.unusedSimpArgs false
attribute [local irreducible] IntKind.wrap dm fE iD md lW rn lM fG ma rd sub bytesOf jD dv
variable {ag az av ax vh vi vj vk k : Nat}
variable {af ay au aw uG uH uI uJ : Option Addr}
def F7.f (k : Nat) (a0 : aJ) (a1 : qI) (a2 : aJ) : Option (Bool):=(wq.f k a0 a1).bind (fun d=>(pN.f k a0 a1).bind (fun h=>(de.f k d.1 h.1).bind (fun j=>if j = true then (if d.2 = h.2 then ((eu.f k a0).bind (fun l=>(fc.f k a0).bind (fun m=>if l = m then ((wt.f k a0 a2).bind (fun a=>(de.f k a0 a2).bind (fun b=>if a = b then ((tf.f k ).bind (fun c=>some (c))) else (some (false))))) else (some (false))))) else (some (false))) else (some (false)))))
theorem F7.ok {a0 : aJ} {a1 : qI} {a2 : aJ} {r : Bool} (H : F7.f k a0 a1 a2 = some r) : dp Tryz.prog 7 #[.agg (am a0 af ag ay az au av aw ax).toArray,.agg #[.int .u8 a1.f0,ae a1.f1,ae a1.f2,.bool a1.f3],.agg (am a2 uG vh uH vi uI vj uJ vk).toArray] (co a0 af ag ay az au av aw ax++co a2 uG vh uH vi uI vj uJ vk) (fun v B=>v = .bool r∧B = []):=by
 refine aj Tryz.func7 rfl rfl ?_
 unfold F7.f at H
 refine aP (o' (bO (h:=fun b9=>o' (bO (h:=fun a6=>o' (bO (h:=fun a7=>ad aW (h:=cR (bq (cm 8) (h:=l' (cx a6 0 9 [.int .u8 a1.f0,ae a1.f1,ae a1.f2,.bool a1.f3]) ?_))))))))))
 obtain⟨j,a3,H⟩:=ac H
 refine o' (ef [0,1,2,3] [0,1,2,3,4,5,6,7,8,9,10] (wq.ok a3) fun o I p J q K s L=>?_)
 refine ad ar (h:=ad cw (h:=ad cw (h:=o' (cC (h:=fun E=>o' (bj E 0 15 (am j.1 o I p J q K s L) (h:=ad aW (h:=bA (ap (bQ 0 fun b4=>bQ 1 fun b5=>bQ 2 fun b6=>?_))))))))))
 refine bQ 3 fun b7=>ak (bq (cm 12) (h:=l' (cx a6 0 13 [.int .u8 a1.f0,ae a1.f1,ae a1.f2,.bool a1.f3]) ?_))
 obtain⟨m,Z,H⟩:=ac H
 refine o' (ef [4,5,6,7] (0::1::2::3::4::5::6::7::8::9::10::11::12::13::14::15::[]) (Em.ok Z) fun u M y N z O D R=>?_)
 refine ad ar (h:=ad cw (h:=ad cw (h:=o' (cC (h:=fun F=>o' (bj F 0 20 (am m.1 u M y N z O D R) (h:=ad aW (h:=bA (SA.of_St (l:=[(3,aI b9),(5,aI a7),(7,aI E),(8,ae j.2),(9,aI F),(10,ae m.2)]) (B:=(aL b9 34 (am a0 af ag ay az au av aw ax)::Ro bI af ag a0.f0.f2::wm ay az a0.f7::Ro bI au av a0.f16.f2::sT aw ax a0.f17::aL a7 34 (am a2 uG vh uH vi uI vj uJ vk)::Ro bI uG vh a2.f0.f2::wm uH vi a2.f7::Ro bI uI vj a2.f16.f2::sT uJ vk a2.f17::aL E 34 (am j.1 o I p J q K s L)::Buf bI 55 o I j.1.f0.f2::gL 3 p J j.1.f7::Buf bI 55 q K j.1.f16.f2::lZ 21 s L j.1.f17::aL F 34 (am m.1 u M y N z O D R)::Buf bI 55 u M m.1.f0.f2::gL 3 y N m.1.f7::Buf bI 55 z O m.1.f16.f2::lZ 21 D R m.1.f17::[])) (St.mk1 (cO rfl (cO rfl (cO rfl (cO rfl (cO rfl (cO rfl dY)))))) (Gh.sel (16::8::9::10::11::18::12::13::14::15::19::4::5::6::7::20::0::1::2::3::[]) (by kernel_rfl) (by kernel_rfl))) fun junk=>ap (bQ 16 fun b8=>?_))))))))))
 refine bQ 17 fun c5=>bQ 18 fun c6=>bQ 19 fun c7=>?_
 refine fg (0::1::3::4::5::6::7::8::9::10::11::12::13::14::15::16::17::18::19::20::21::22::23::24::25::26::27::[]) [0,1,2,3,4,5,6,7,8,9,10,15] (1::2::3::4::6::7::8::9::11::12::13::14::16::17::18::19::[]) fun _ _ _ _ _ sH dd pk=>?_
 refine bN 0 rfl sH (cm 10) (h:=r' 1 rfl sH (cm 11) ?_)
 obtain⟨c8,a8,H⟩:=ac H
 refine dT 2 rfl dd (da [8,9,10,11,12,13,14,15] [0,1,2,3,4,5,6,7] (de.ok a8) ?_)
 refine T' 3 rfl sH ar ?_
 rcases bD H with⟨c,H⟩|⟨c,H⟩
 ·refine cU 4 rfl c sH ar (h:=cU 5 rfl c sH ar (h:=cU 6 rfl c sH (bk rfl rfl) (h:=bN 7 rfl sH (VR.ofV (bR rfl (c) rfl)) (h:=T' 8 rfl sH ar ?_))))
  rcases bD H with⟨b,H⟩|⟨b,H⟩
  ·refine cH 9 rfl (ai b) sH (cm 0) (h:=xT 11 rfl (ai b) sH (cm 0) ?_)
   obtain⟨b1,a9,H⟩:=ac H
   refine xb 10 rfl dd (ai b) (da [8,9,10,11] (0::1::2::3::4::5::6::7::8::9::10::11::12::13::14::15::[]) (qR.ok a9) ?_)
   obtain⟨b2,b0,H⟩:=ac H
   refine xb 12 rfl dd (ai b) (da [8,9,10,11] (0::1::2::3::4::5::6::7::8::9::10::11::12::13::14::15::[]) (BO.ok b0) ?_)
   refine ib (.bool (decide (b1 = b2))) 13 rfl (ai b) sH (eV Tryz.underlying4 rfl rfl) (h:=bN 14 rfl sH (VR.ofV (bR rfl (ai b) rfl)) (h:=T' 15 rfl sH ar ?_))
   rcases bD H with⟨a,H⟩|⟨a,H⟩
   ·refine cH 16 rfl (ai a) sH (cm 0) (h:=cH 17 rfl (ai a) sH (cm 5) (h:=cH 19 rfl (ai a) sH (cm 0) (h:=xT 20 rfl (ai a) sH (cm 5) ?_)))
    obtain⟨a4,S,H⟩:=ac H
    refine xb 18 rfl dd (ai a) (da [8,9,10,11,12,13,14,15] (0::1::2::3::4::5::6::7::8::9::10::11::12::13::14::15::[]) (wt.ok S) ?_)
    obtain⟨a5,U,H⟩:=ac H
    refine xb 21 rfl dd (ai a) (da [8,9,10,11,12,13,14,15] (0::1::2::3::4::5::6::7::8::9::10::11::12::13::14::15::[]) (El.ok U) ?_)
    refine ib (.bool (decide (a4 = a5))) 22 rfl (ai a) sH (eV Tryz.underlying4 rfl rfl) (h:=bN 23 rfl sH (VR.ofV (bR rfl (ai a) rfl)) (h:=T' 24 rfl sH ar ?_))
    rcases bD H with⟨d,H⟩|⟨d,H⟩
    ·obtain⟨b3,Y,H⟩:=ac H
     refine xb 25 rfl dd (ai d) (da [] (0::1::2::3::4::5::6::7::8::9::10::11::12::13::14::15::[]) (tf.ok Y) ?_)
     refine bN 26 rfl sH (VR.ofV (bR rfl (ai d) rfl)) (h:=bf 27 rfl sH aW (h:=aV dd sH (aH (by kernel_rfl) (aa (eM ?_)))))
     have h:=aN H;subst h
     exact dJ [] ⟨rfl,rfl⟩
    refine bM 25 rfl (al d) (bN 26 rfl sH (VR.ofV (bL rfl (al d) rfl)) (h:=bf 27 rfl sH aW (h:=aV dd sH (aH (by kernel_rfl) (aa (eM ?_))))))
    have h:=aN H;subst h
    exact dJ [] ⟨rfl,rfl⟩
   refine bM 16 rfl (al a) (bM 17 rfl (al a) (bM 18 rfl (al a) (bM 19 rfl (al a) (bM 20 rfl (al a) (bM 21 rfl (al a) (bM 22 rfl (al a) (bN 23 rfl sH (VR.ofV (bL rfl (al a) rfl)) (h:=bf 24 rfl sH ar (h:=bM 25 rfl rfl ?_)))))))))
   refine bN 26 rfl sH (VR.ofV (bL rfl (rfl) rfl)) (h:=bf 27 rfl sH aW (h:=aV dd sH (aH (by kernel_rfl) (aa (eM ?_)))))
   have h:=aN H;subst h
   exact dJ [] ⟨rfl,rfl⟩
  refine bM 9 rfl (al b) (bM 10 rfl (al b) (bM 11 rfl (al b) (bM 12 rfl (al b) (bM 13 rfl (al b) (bN 14 rfl sH (VR.ofV (bL rfl (al b) rfl)) (h:=bf 15 rfl sH ar (h:=bM 16 rfl rfl (bM 17 rfl rfl (bM 18 rfl rfl ?_)))))))))
  refine bM 19 rfl rfl (bM 20 rfl rfl (bM 21 rfl rfl (bM 22 rfl rfl (bN 23 rfl sH (VR.ofV (bL rfl (rfl) rfl)) (h:=bf 24 rfl sH ar (h:=bM 25 rfl rfl (bN 26 rfl sH (VR.ofV (bL rfl (rfl) rfl)) (h:=bf 27 rfl sH aW (h:=aV dd sH ?_)))))))))
  refine aH (by kernel_rfl) (aa (eM ?_))
  have h:=aN H;subst h
  exact dJ [] ⟨rfl,rfl⟩
 refine bM 4 rfl (aK c) (bM 5 rfl (aK c) (bM 6 rfl (aK c) (bN 7 rfl sH (VR.ofV (bL rfl (aK c) rfl)) (h:=bf 8 rfl sH ar (h:=bM 9 rfl rfl (bM 10 rfl rfl (bM 11 rfl rfl (bM 12 rfl rfl (bM 13 rfl rfl ?_)))))))))
 refine bN 14 rfl sH (VR.ofV (bL rfl (rfl) rfl)) (h:=bf 15 rfl sH ar (h:=bM 16 rfl rfl (bM 17 rfl rfl (bM 18 rfl rfl (bM 19 rfl rfl (bM 20 rfl rfl (bM 21 rfl rfl (bM 22 rfl rfl (r' 23 rfl sH (VR.ofV (bL rfl (rfl) rfl)) ?_)))))))))
 refine bf 24 rfl sH ar (h:=bM 25 rfl rfl (bN 26 rfl sH (VR.ofV (bL rfl (rfl) rfl)) (h:=bf 27 rfl sH aW (h:=aV dd sH (aH (by kernel_rfl) (aa (eM ?_)))))))
 have h:=aN H;subst h
 exact dJ [] ⟨rfl,rfl⟩

end Go.Proofs.YtckilbegmbaeeaaGreat.Z7
