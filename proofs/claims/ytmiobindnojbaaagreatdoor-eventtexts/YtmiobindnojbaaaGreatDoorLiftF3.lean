/- The law. Part of a proof of a given statement: for every input the law returns true and the arguments read as before; no condition beyond the given row. -/
import Derived.Test.YtmiobindnojbaaaGreatDoorLiftF2
namespace Go.Av
noncomputable section
open Go.Proofs
set_option maxRecDepth 100000
set_option maxHeartbeats 4000000
attribute [local irreducible] Wa Yl Q8h Q8m Qj3 Qid Q99
section
def Y1 (N : Nat) (e : Yb) (c2 : Bool) : Option (Int) :=
 (Vg N e.Proto).bind fun v4 =>
 cond (!v4)
 (some 2)
 (cond (Qa .neq e.Kind 1)
 (some 2)
 ((X1 N e.Topic).bind fun v8 =>
 cond (!v8)
 (some 10)
 ((Qh N e.QoS 0 2).bind fun v11 =>
 cond (!v11)
 (cond (Qa .eql e.Proto 3)
 (cond (!(Qa .eql e.QoS (-1)))
 (some 2)
 ((Qh N e.ID 0 65535).bind fun v16 =>
 cond (!v16)
 (some 2)
 (cond (!(c2 == (Qa .neq e.ID 0)))
 (some 2)
 (cond e.Dup
 (cond (!c2)
 (cond (Qa .gtr ((Q7 Qw.cells e.Props).length : Int) 0)
 (cond (Qa .neq e.Proto 2)
 (some 2)
 ((Z0 N e).bind fun v24 =>
 cond (!v24)
 (some 2)
 ((Qh N e.Channel 0 65535).bind fun v27 =>
 cond (!v27)
 (some 2)
 (cond (Qa .neq e.Channel 0)
 (cond (Qa .neq e.Proto 4)
 (some 2)
 ((Qc N e).bind fun v32 =>
 cond (!v32)
 (some 2)
 ((Qb N 3 e.Props).bind fun v35 =>
 cond (Qa .neq v35 0)
 (some 9)
 (some 0))))
 ((Qc N e).bind fun v38 =>
 cond (!v38)
 (some 2)
 ((Qb N 3 e.Props).bind fun v41 =>
 cond (Qa .neq v41 0)
 (some 9)
 (some 0)))))))
 ((Z0 N e).bind fun v44 =>
 cond (!v44)
 (some 2)
 ((Qh N e.Channel 0 65535).bind fun v47 =>
 cond (!v47)
 (some 2)
 (cond (Qa .neq e.Channel 0)
 (cond (Qa .neq e.Proto 4)
 (some 2)
 ((Qc N e).bind fun v52 =>
 cond (!v52)
 (some 2)
 ((Qb N 3 e.Props).bind fun v55 =>
 cond (Qa .neq v55 0)
 (some 9)
 (some 0))))
 ((Qc N e).bind fun v58 =>
 cond (!v58)
 (some 2)
 ((Qb N 3 e.Props).bind fun v61 =>
 cond (Qa .neq v61 0)
 (some 9)
 (some 0)))))))
 (cond (Qa .gtr ((Q7 Qw.cells e.Props).length : Int) 0)
 (cond (Qa .neq e.Proto 2)
 (some 2)
 ((Z0 N e).bind fun v66 =>
 cond (!v66)
 (some 2)
 ((Qh N e.Channel 0 65535).bind fun v69 =>
 cond (!v69)
 (some 2)
 (cond (Qa .neq e.Channel 0)
 (cond (Qa .neq e.Proto 4)
 (some 2)
 ((Qc N e).bind fun v74 =>
 cond (!v74)
 (some 2)
 ((Qb N 3 e.Props).bind fun v77 =>
 cond (Qa .neq v77 0)
 (some 9)
 (some 0))))
 ((Qc N e).bind fun v80 =>
 cond (!v80)
 (some 2)
 ((Qb N 3 e.Props).bind fun v83 =>
 cond (Qa .neq v83 0)
 (some 9)
 (some 0)))))))
 ((Z0 N e).bind fun v86 =>
 cond (!v86)
 (some 2)
 ((Qh N e.Channel 0 65535).bind fun v89 =>
 cond (!v89)
 (some 2)
 (cond (Qa .neq e.Channel 0)
 (cond (Qa .neq e.Proto 4)
 (some 2)
 ((Qc N e).bind fun v94 =>
 cond (!v94)
 (some 2)
 ((Qb N 3 e.Props).bind fun v97 =>
 cond (Qa .neq v97 0)
 (some 9)
 (some 0))))
 ((Qc N e).bind fun v100 =>
 cond (!v100)
 (some 2)
 ((Qb N 3 e.Props).bind fun v103 =>
 cond (Qa .neq v103 0)
 (some 9)
 (some 0))))))))
 (cond (Qa .gtr ((Q7 Qw.cells e.Props).length : Int) 0)
 (cond (Qa .neq e.Proto 2)
 (some 2)
 ((Z0 N e).bind fun v108 =>
 cond (!v108)
 (some 2)
 ((Qh N e.Channel 0 65535).bind fun v111 =>
 cond (!v111)
 (some 2)
 (cond (Qa .neq e.Channel 0)
 (cond (Qa .neq e.Proto 4)
 (some 2)
 ((Qc N e).bind fun v116 =>
 cond (!v116)
 (some 2)
 ((Qb N 3 e.Props).bind fun v119 =>
 cond (Qa .neq v119 0)
 (some 9)
 (some 0))))
 ((Qc N e).bind fun v122 =>
 cond (!v122)
 (some 2)
 ((Qb N 3 e.Props).bind fun v125 =>
 cond (Qa .neq v125 0)
 (some 9)
 (some 0)))))))
 ((Z0 N e).bind fun v128 =>
 cond (!v128)
 (some 2)
 ((Qh N e.Channel 0 65535).bind fun v131 =>
 cond (!v131)
 (some 2)
 (cond (Qa .neq e.Channel 0)
 (cond (Qa .neq e.Proto 4)
 (some 2)
 ((Qc N e).bind fun v136 =>
 cond (!v136)
 (some 2)
 ((Qb N 3 e.Props).bind fun v139 =>
 cond (Qa .neq v139 0)
 (some 9)
 (some 0))))
 ((Qc N e).bind fun v142 =>
 cond (!v142)
 (some 2)
 ((Qb N 3 e.Props).bind fun v145 =>
 cond (Qa .neq v145 0)
 (some 9)
 (some 0)))))))))))
 (some 2))
 ((Qh N e.ID 0 65535).bind fun v148 =>
 cond (!v148)
 (some 2)
 (cond (!(c2 == (Qa .neq e.ID 0)))
 (some 2)
 (cond e.Dup
 (cond (!c2)
 (cond (!(Qa .eql e.Proto 3))
 (some 2)
 (cond (Qa .gtr ((Q7 Qw.cells e.Props).length : Int) 0)
 (cond (Qa .neq e.Proto 2)
 (some 2)
 (cond (Qa .eql e.Proto 3)
 ((Z0 N e).bind fun v158 =>
 cond (!v158)
 (some 2)
 ((Qh N e.Channel 0 65535).bind fun v161 =>
 cond (!v161)
 (some 2)
 (cond (Qa .neq e.Channel 0)
 (cond (Qa .neq e.Proto 4)
 (some 2)
 ((Qc N e).bind fun v166 =>
 cond (!v166)
 (some 2)
 ((Qb N 3 e.Props).bind fun v169 =>
 cond (Qa .neq v169 0)
 (some 9)
 (some 0))))
 ((Qc N e).bind fun v172 =>
 cond (!v172)
 (some 2)
 ((Qb N 3 e.Props).bind fun v175 =>
 cond (Qa .neq v175 0)
 (some 9)
 (some 0))))))
 ((Qh N e.Channel 0 65535).bind fun v178 =>
 cond (!v178)
 (some 2)
 (cond (Qa .neq e.Channel 0)
 (cond (Qa .neq e.Proto 4)
 (some 2)
 ((Qc N e).bind fun v183 =>
 cond (!v183)
 (some 2)
 ((Qb N 3 e.Props).bind fun v186 =>
 cond (Qa .neq v186 0)
 (some 9)
 (some 0))))
 ((Qc N e).bind fun v189 =>
 cond (!v189)
 (some 2)
 ((Qb N 3 e.Props).bind fun v192 =>
 cond (Qa .neq v192 0)
 (some 9)
 (some 0)))))))
 (cond (Qa .eql e.Proto 3)
 ((Z0 N e).bind fun v196 =>
 cond (!v196)
 (some 2)
 ((Qh N e.Channel 0 65535).bind fun v199 =>
 cond (!v199)
 (some 2)
 (cond (Qa .neq e.Channel 0)
 (cond (Qa .neq e.Proto 4)
 (some 2)
 ((Qc N e).bind fun v204 =>
 cond (!v204)
 (some 2)
 ((Qb N 3 e.Props).bind fun v207 =>
 cond (Qa .neq v207 0)
 (some 9)
 (some 0))))
 ((Qc N e).bind fun v210 =>
 cond (!v210)
 (some 2)
 ((Qb N 3 e.Props).bind fun v213 =>
 cond (Qa .neq v213 0)
 (some 9)
 (some 0))))))
 ((Qh N e.Channel 0 65535).bind fun v216 =>
 cond (!v216)
 (some 2)
 (cond (Qa .neq e.Channel 0)
 (cond (Qa .neq e.Proto 4)
 (some 2)
 ((Qc N e).bind fun v221 =>
 cond (!v221)
 (some 2)
 ((Qb N 3 e.Props).bind fun v224 =>
 cond (Qa .neq v224 0)
 (some 9)
 (some 0))))
 ((Qc N e).bind fun v227 =>
 cond (!v227)
 (some 2)
 ((Qb N 3 e.Props).bind fun v230 =>
 cond (Qa .neq v230 0)
 (some 9)
 (some 0))))))))
 (cond (Qa .gtr ((Q7 Qw.cells e.Props).length : Int) 0)
 (cond (Qa .neq e.Proto 2)
 (some 2)
 (cond (Qa .eql e.Proto 3)
 ((Z0 N e).bind fun v236 =>
 cond (!v236)
 (some 2)
 ((Qh N e.Channel 0 65535).bind fun v239 =>
 cond (!v239)
 (some 2)
 (cond (Qa .neq e.Channel 0)
 (cond (Qa .neq e.Proto 4)
 (some 2)
 ((Qc N e).bind fun v244 =>
 cond (!v244)
 (some 2)
 ((Qb N 3 e.Props).bind fun v247 =>
 cond (Qa .neq v247 0)
 (some 9)
 (some 0))))
 ((Qc N e).bind fun v250 =>
 cond (!v250)
 (some 2)
 ((Qb N 3 e.Props).bind fun v253 =>
 cond (Qa .neq v253 0)
 (some 9)
 (some 0))))))
 (cond (Qa .neq e.Type' 0)
 (some 2)
 (cond (Qa .gtr ((Q7 W3.cells e.Hops).length : Int) 0)
 (some 2)
 ((Qh N e.Channel 0 65535).bind fun v258 =>
 cond (!v258)
 (some 2)
 (cond (Qa .neq e.Channel 0)
 (cond (Qa .neq e.Proto 4)
 (some 2)
 ((Qc N e).bind fun v263 =>
 cond (!v263)
 (some 2)
 ((Qb N 3 e.Props).bind fun v266 =>
 cond (Qa .neq v266 0)
 (some 9)
 (some 0))))
 ((Qc N e).bind fun v269 =>
 cond (!v269)
 (some 2)
 ((Qb N 3 e.Props).bind fun v272 =>
 cond (Qa .neq v272 0)
 (some 9)
 (some 0)))))))))
 (cond (Qa .eql e.Proto 3)
 ((Z0 N e).bind fun v276 =>
 cond (!v276)
 (some 2)
 ((Qh N e.Channel 0 65535).bind fun v279 =>
 cond (!v279)
 (some 2)
 (cond (Qa .neq e.Channel 0)
 (cond (Qa .neq e.Proto 4)
 (some 2)
 ((Qc N e).bind fun v284 =>
 cond (!v284)
 (some 2)
 ((Qb N 3 e.Props).bind fun v287 =>
 cond (Qa .neq v287 0)
 (some 9)
 (some 0))))
 ((Qc N e).bind fun v290 =>
 cond (!v290)
 (some 2)
 ((Qb N 3 e.Props).bind fun v293 =>
 cond (Qa .neq v293 0)
 (some 9)
 (some 0))))))
 (cond (Qa .neq e.Type' 0)
 (some 2)
 (cond (Qa .gtr ((Q7 W3.cells e.Hops).length : Int) 0)
 (some 2)
 ((Qh N e.Channel 0 65535).bind fun v298 =>
 cond (!v298)
 (some 2)
 (cond (Qa .neq e.Channel 0)
 (cond (Qa .neq e.Proto 4)
 (some 2)
 ((Qc N e).bind fun v303 =>
 cond (!v303)
 (some 2)
 ((Qb N 3 e.Props).bind fun v306 =>
 cond (Qa .neq v306 0)
 (some 9)
 (some 0))))
 ((Qc N e).bind fun v309 =>
 cond (!v309)
 (some 2)
 ((Qb N 3 e.Props).bind fun v312 =>
 cond (Qa .neq v312 0)
 (some 9)
 (some 0))))))))))
 (cond (Qa .gtr ((Q7 Qw.cells e.Props).length : Int) 0)
 (cond (Qa .neq e.Proto 2)
 (some 2)
 (cond (Qa .eql e.Proto 3)
 ((Z0 N e).bind fun v318 =>
 cond (!v318)
 (some 2)
 ((Qh N e.Channel 0 65535).bind fun v321 =>
 cond (!v321)
 (some 2)
 (cond (Qa .neq e.Channel 0)
 (cond (Qa .neq e.Proto 4)
 (some 2)
 ((Qc N e).bind fun v326 =>
 cond (!v326)
 (some 2)
 ((Qb N 3 e.Props).bind fun v329 =>
 cond (Qa .neq v329 0)
 (some 9)
 (some 0))))
 ((Qc N e).bind fun v332 =>
 cond (!v332)
 (some 2)
 ((Qb N 3 e.Props).bind fun v335 =>
 cond (Qa .neq v335 0)
 (some 9)
 (some 0))))))
 (cond (Qa .neq e.Type' 0)
 (some 2)
 (cond (Qa .gtr ((Q7 W3.cells e.Hops).length : Int) 0)
 (some 2)
 ((Qh N e.Channel 0 65535).bind fun v340 =>
 cond (!v340)
 (some 2)
 (cond (Qa .neq e.Channel 0)
 (cond (Qa .neq e.Proto 4)
 (some 2)
 ((Qc N e).bind fun v345 =>
 cond (!v345)
 (some 2)
 ((Qb N 3 e.Props).bind fun v348 =>
 cond (Qa .neq v348 0)
 (some 9)
 (some 0))))
 ((Qc N e).bind fun v351 =>
 cond (!v351)
 (some 2)
 ((Qb N 3 e.Props).bind fun v354 =>
 cond (Qa .neq v354 0)
 (some 9)
 (some 0)))))))))
 (cond (Qa .eql e.Proto 3)
 ((Z0 N e).bind fun v358 =>
 cond (!v358)
 (some 2)
 ((Qh N e.Channel 0 65535).bind fun v361 =>
 cond (!v361)
 (some 2)
 (cond (Qa .neq e.Channel 0)
 (cond (Qa .neq e.Proto 4)
 (some 2)
 ((Qc N e).bind fun v366 =>
 cond (!v366)
 (some 2)
 ((Qb N 3 e.Props).bind fun v369 =>
 cond (Qa .neq v369 0)
 (some 9)
 (some 0))))
 ((Qc N e).bind fun v372 =>
 cond (!v372)
 (some 2)
 ((Qb N 3 e.Props).bind fun v375 =>
 cond (Qa .neq v375 0)
 (some 9)
 (some 0))))))
 (cond (Qa .neq e.Type' 0)
 (some 2)
 (cond (Qa .gtr ((Q7 W3.cells e.Hops).length : Int) 0)
 (some 2)
 ((Qh N e.Channel 0 65535).bind fun v380 =>
 cond (!v380)
 (some 2)
 (cond (Qa .neq e.Channel 0)
 (cond (Qa .neq e.Proto 4)
 (some 2)
 ((Qc N e).bind fun v385 =>
 cond (!v385)
 (some 2)
 ((Qb N 3 e.Props).bind fun v388 =>
 cond (Qa .neq v388 0)
 (some 9)
 (some 0))))
 ((Qc N e).bind fun v391 =>
 cond (!v391)
 (some 2)
 ((Qb N 3 e.Props).bind fun v394 =>
 cond (Qa .neq v394 0)
 (some 9)
 (some 0)))))))))))))))
def Yq (N : Nat) (e : Yb) : Option (Int) :=
 cond (Qa .eql e.QoS 1)
 (Y1 N e true)
 (Y1 N e (Qa .eql e.QoS 2))
theorem J3 {N} {e} {r} (h : Yq N e = some r) : Xl Tryz.prog G1 6 [.agg (Yb.cells e)] (.int .i64 r) := by
 refine Q3 k6 ?_
 unfold Yq at h
 rw [cX] at h
 refine Qdx (σ := Bool) (fun _ => (.any :: .ptr 0 0 :: .any :: .ptr 1 0 :: .ptr 2 0 :: a16 (a16 (a16 (.any :: []))) : List AV)) (fun c2 => (.cells (iI e.Proto :: iI e.Kind :: iS e.Topic :: iS e.Payload :: iI e.QoS :: .p (.bool e.Retain) :: .p (.bool e.Dup) :: iI e.ID :: .p (.slice 4 (Q7 Qw.cells e.Props)) :: iI e.Type' :: .p (.slice 2 (Q7 W3.cells e.Hops)) :: iI e.Channel :: iI e.Packet.Kind :: .p (.bool e.Packet.Dup) :: .p (.bool e.Packet.Retain) :: iI e.Packet.QoS :: iI e.Packet.ID :: iS e.Packet.Topic :: iS e.Packet.Payload :: .p (.bool e.Packet.Clean) :: iI e.Packet.KeepAlive :: iS e.Packet.Client :: .p (.bool e.Packet.HasUser) :: iS e.Packet.User :: .p (.bool e.Packet.HasPass) :: iS e.Packet.Pass :: .p (.bool e.Packet.HasWill) :: iS e.Packet.Will.Topic :: iS e.Packet.Will.Payload :: iI e.Packet.Will.QoS :: .p (.bool e.Packet.Will.Retain) :: .p (.slice 4 (Q7 Qw.cells e.Packet.Will.Props)) :: .p (.bool e.Packet.Session) :: iI e.Packet.Code :: .p (.slice 1 (Q7 (cI .i64) e.Packet.Codes)) :: .p (.slice 5 (Q7 Z2.cells e.Packet.Filters)) :: .p (.slice 4 (Q7 Qw.cells e.Packet.Props)) :: iI e.Msg.Type' :: .p (.bool e.Msg.Flags.Dup) :: iI e.Msg.Flags.QoS :: .p (.bool e.Msg.Flags.Retain) :: .p (.bool e.Msg.Flags.Will) :: .p (.bool e.Msg.Flags.Clean) :: iI e.Msg.Flags.Type' :: iI e.Msg.Gateway :: iI e.Msg.Radius :: iI e.Msg.Time :: .p (.bool e.Msg.Timed) :: iI e.Msg.TopicID :: iI e.Msg.MsgID :: iI e.Msg.Code :: iS e.Msg.Name :: iS e.Msg.Data :: iI e.Frame.Type' :: iI e.Frame.Channel :: iS e.Frame.Ext :: .p (.slice 4 (Q8.rows e.Frame.Values)) :: []) :: .cells (.p (.bool (Qjn .eql e.Proto 3)) :: []) :: .cells (.p (.bool c2) :: []) :: [] : List AObj)) (fun c2 => Y1 N e c2 = some r) (fun _ _ => lb) ?_ ?_
 ·apply iU h <;> intro h
  ·show Exists _
   exact ⟨(true), h, (fun i => i), ⟨(rA <| rE rfl <| rA <| rE rfl <| rE rfl <| rX <| rX <| rX <| rX <| rX <| rX <| rA <| rN), (hE rfl <| hE rfl <| hE rfl <| hN), rfl, rfl, (roE rfl <| roE rfl <| roE rfl <| roN)⟩⟩
  ·show Exists _
   exact ⟨((Qjn .eql e.QoS 2)), h, (fun i => i), ⟨(rA <| rE rfl <| rA <| rE rfl <| rE rfl <| rX <| rX <| rX <| rX <| rX <| rX <| rA <| rN), (hE rfl <| hE rfl <| hE rfl <| hN), rfl, rfl, (roE rfl <| roE rfl <| roE rfl <| roN)⟩⟩
 rintro c2 h
 unfold Y1 at h
 rw [cX] at h
 refine Q0z 13 ?_
 refine ifT (cF (by decide)) ?_
 refine Q2 k13 ?_
 refine cP h Q39 p1 fun v4 h => ?_
 apply iU h <;> intro h
 ·cases h; exact (.p _)
 ·apply iU h <;> intro h
  ·cases h; exact (.p _)
  ·refine ifT (cF (by decide)) ?_
   refine Q2 k15 ?_
   refine cP h Vc p1 fun v8 h => ?_
   apply iU h <;> intro h
   ·cases h; exact (.p _)
   ·refine ifT (cF (by decide)) ?_
    refine Q2 k17 ?_
    refine cP h Qd p3 fun v11 h => ?_
    apply iU h <;> intro h
    ·refine ifO h (fun hc14 h => ?_) (fun hc14 h => ?_)
     ·apply iU h <;> intro h
      ·cases h; exact (.p _)
      ·refine ifT (cF (by decide)) ?_
       refine Q2 k19 ?_
       refine cP h Qd p3 fun v16 h => ?_
       apply iU h <;> intro h
       ·cases h; exact (.p _)
       ·apply iU h <;> intro h
        ·cases h; exact (.p _)
        ·refine ifT (cF (by decide)) ?_
         refine Q2 k20 ?_
         apply iU h <;> intro h
         ·apply iU h <;> intro h
          ·refine ifF (Q47 hc14) ?_
           refine ifT (cF (by decide)) ?_
           refine Q2 k21 ?_
           apply iU h <;> intro h
           ·apply iU h <;> intro h
            ·cases h; exact (.p _)
            ·refine ifT (cF (by decide)) ?_
             refine Q2 k22 ?_
             refine ifT hc14 ?_
             refine cP h Z1 (.cons (Frz.agg' (.cons (.p _) (.cons (.p _) (.cons (.p _) (.cons (.p _) (.cons (.p _) (.cons (.p _) (.cons (.p _) (.cons (.p _) (.cons (.p _) (.cons (.p _) (.cons (.p _) (.cons (.p _) (.cons (.p _) (.cons (.p _) (.cons (.p _) (.cons (.p _) (.cons (.p _) (.cons (.p _) (.cons (.p _) (.cons (.p _) (.cons (.p _) (.cons (.p _) (.cons (.p _) (.cons (.p _) (.cons (.p _) (.cons (.p _) (.cons (.p _) (.cons (.p _) (.cons (.p _) (.cons (.p _) (.cons (.p _) (.cons (.p _) (.cons (.p _) (.cons (.p _) (.cons (.p _) (.cons (.p _) (.cons (.p _) (.cons (.p _) (.cons (.p _) (.cons (.p _) (.cons (.p _) (.cons (.p _) (.cons (.p _) (.cons (.p _) (.cons (.p _) (.cons (.p _) (.cons (.p _) (.cons (.p _) (.cons (.p _) (.cons (.p _) (.cons (.p _) (.cons (.p _) p5))))))))))))))))))))))))))))))))))))))))))))))))))))) .nil) fun v24 h => ?_
             apply iU h <;> intro h
             ·cases h; exact (.p _)
             ·refine ifF (Q47 hc14) ?_
              refine ifT (cF (by decide)) ?_
              refine Q2 k24 ?_
              refine cP h Qd p3 fun v27 h => ?_
              apply iU h <;> intro h
              ·cases h; exact (.p _)
              ·refine ifT (cF (by decide)) ?_
               refine Q2 k25 ?_
               apply iU h <;> intro h
               ·apply iU h <;> intro h
                ·cases h; exact (.p _)
                ·refine ifT (cF (by decide)) ?_
                 refine Q2 k26 ?_
                 refine cP h Q6 (.cons (Frz.agg' (.cons (.p _) (.cons (.p _) (.cons (.p _) (.cons (.p _) (.cons (.p _) (.cons (.p _) (.cons (.p _) (.cons (.p _) (.cons (.p _) (.cons (.p _) (.cons (.p _) (.cons (.p _) (.cons (.p _) (.cons (.p _) (.cons (.p _) (.cons (.p _) (.cons (.p _) (.cons (.p _) (.cons (.p _) (.cons (.p _) (.cons (.p _) (.cons (.p _) (.cons (.p _) (.cons (.p _) (.cons (.p _) (.cons (.p _) (.cons (.p _) (.cons (.p _) (.cons (.p _) (.cons (.p _) (.cons (.p _) (.cons (.p _) (.cons (.p _) (.cons (.p _) (.cons (.p _) (.cons (.p _) (.cons (.p _) (.cons (.p _) (.cons (.p _) (.cons (.p _) (.cons (.p _) (.cons (.p _) (.cons (.p _) (.cons (.p _) (.cons (.p _) (.cons (.p _) (.cons (.p _) (.cons (.p _) (.cons (.p _) (.cons (.p _) (.cons (.p _) (.cons (.p _) p5))))))))))))))))))))))))))))))))))))))))))))))))))))) .nil) fun v32 h => ?_
                 apply iU h <;> intro h
                 ·cases h; exact (.p _)
                 ·refine ifT (cF (by decide)) ?_
                  refine Q2 k28 ?_
                  refine cP h Q5 p2 fun v35 h => ?_
                  apply iU h <;> intro h
                  ·cases h; exact (.p _)
                  ·refine ifF (cF (by decide)) ?_
                   cases h; exact (.p _)
               ·refine ifT (cF (by decide)) ?_
                refine Q2 k26 ?_
                refine cP h Q6 (.cons (Frz.agg' (.cons (.p _) (.cons (.p _) (.cons (.p _) (.cons (.p _) (.cons (.p _) (.cons (.p _) (.cons (.p _) (.cons (.p _) (.cons (.p _) (.cons (.p _) (.cons (.p _) (.cons (.p _) (.cons (.p _) (.cons (.p _) (.cons (.p _) (.cons (.p _) (.cons (.p _) (.cons (.p _) (.cons (.p _) (.cons (.p _) (.cons (.p _) (.cons (.p _) (.cons (.p _) (.cons (.p _) (.cons (.p _) (.cons (.p _) (.cons (.p _) (.cons (.p _) (.cons (.p _) (.cons (.p _) (.cons (.p _) (.cons (.p _) (.cons (.p _) (.cons (.p _) (.cons (.p _) (.cons (.p _) (.cons (.p _) (.cons (.p _) (.cons (.p _) (.cons (.p _) (.cons (.p _) (.cons (.p _) (.cons (.p _) (.cons (.p _) (.cons (.p _) (.cons (.p _) (.cons (.p _) (.cons (.p _) (.cons (.p _) (.cons (.p _) (.cons (.p _) (.cons (.p _) p5))))))))))))))))))))))))))))))))))))))))))))))))))))) .nil) fun v38 h => ?_
                apply iU h <;> intro h
                ·cases h; exact (.p _)
                ·refine ifT (cF (by decide)) ?_
                 refine Q2 k28 ?_
                 refine cP h Q5 p2 fun v41 h => ?_
                 apply iU h <;> intro h
                 ·cases h; exact (.p _)
                 ·refine ifF (cF (by decide)) ?_
                  cases h; exact (.p _)
           ·refine ifT (cF (by decide)) ?_
            refine Q2 k22 ?_
            refine ifT hc14 ?_
            refine cP h Z1 (.cons (Frz.agg' (.cons (.p _) (.cons (.p _) (.cons (.p _) (.cons (.p _) (.cons (.p _) (.cons (.p _) (.cons (.p _) (.cons (.p _) (.cons (.p _) (.cons (.p _) (.cons (.p _) (.cons (.p _) (.cons (.p _) (.cons (.p _) (.cons (.p _) (.cons (.p _) (.cons (.p _) (.cons (.p _) (.cons (.p _) (.cons (.p _) (.cons (.p _) (.cons (.p _) (.cons (.p _) (.cons (.p _) (.cons (.p _) (.cons (.p _) (.cons (.p _) (.cons (.p _) (.cons (.p _) (.cons (.p _) (.cons (.p _) (.cons (.p _) (.cons (.p _) (.cons (.p _) (.cons (.p _) (.cons (.p _) (.cons (.p _) (.cons (.p _) (.cons (.p _) (.cons (.p _) (.cons (.p _) (.cons (.p _) (.cons (.p _) (.cons (.p _) (.cons (.p _) (.cons (.p _) (.cons (.p _) (.cons (.p _) (.cons (.p _) (.cons (.p _) (.cons (.p _) (.cons (.p _) p5))))))))))))))))))))))))))))))))))))))))))))))))))))) .nil) fun v44 h => ?_
            apply iU h <;> intro h
            ·cases h; exact (.p _)
            ·refine ifF (Q47 hc14) ?_
             refine ifT (cF (by decide)) ?_
             refine Q2 k24 ?_
             refine cP h Qd p3 fun v47 h => ?_
             apply iU h <;> intro h
             ·cases h; exact (.p _)
             ·refine ifT (cF (by decide)) ?_
              refine Q2 k25 ?_
              apply iU h <;> intro h
              ·apply iU h <;> intro h
               ·cases h; exact (.p _)
               ·refine ifT (cF (by decide)) ?_
                refine Q2 k26 ?_
                refine cP h Q6 (.cons (Frz.agg' (.cons (.p _) (.cons (.p _) (.cons (.p _) (.cons (.p _) (.cons (.p _) (.cons (.p _) (.cons (.p _) (.cons (.p _) (.cons (.p _) (.cons (.p _) (.cons (.p _) (.cons (.p _) (.cons (.p _) (.cons (.p _) (.cons (.p _) (.cons (.p _) (.cons (.p _) (.cons (.p _) (.cons (.p _) (.cons (.p _) (.cons (.p _) (.cons (.p _) (.cons (.p _) (.cons (.p _) (.cons (.p _) (.cons (.p _) (.cons (.p _) (.cons (.p _) (.cons (.p _) (.cons (.p _) (.cons (.p _) (.cons (.p _) (.cons (.p _) (.cons (.p _) (.cons (.p _) (.cons (.p _) (.cons (.p _) (.cons (.p _) (.cons (.p _) (.cons (.p _) (.cons (.p _) (.cons (.p _) (.cons (.p _) (.cons (.p _) (.cons (.p _) (.cons (.p _) (.cons (.p _) (.cons (.p _) (.cons (.p _) (.cons (.p _) (.cons (.p _) (.cons (.p _) p5))))))))))))))))))))))))))))))))))))))))))))))))))))) .nil) fun v52 h => ?_
                apply iU h <;> intro h
                ·cases h; exact (.p _)
                ·refine ifT (cF (by decide)) ?_
                 refine Q2 k28 ?_
                 refine cP h Q5 p2 fun v55 h => ?_
                 apply iU h <;> intro h
                 ·cases h; exact (.p _)
                 ·refine ifF (cF (by decide)) ?_
                  cases h; exact (.p _)
              ·refine ifT (cF (by decide)) ?_
               refine Q2 k26 ?_
               refine cP h Q6 (.cons (Frz.agg' (.cons (.p _) (.cons (.p _) (.cons (.p _) (.cons (.p _) (.cons (.p _) (.cons (.p _) (.cons (.p _) (.cons (.p _) (.cons (.p _) (.cons (.p _) (.cons (.p _) (.cons (.p _) (.cons (.p _) (.cons (.p _) (.cons (.p _) (.cons (.p _) (.cons (.p _) (.cons (.p _) (.cons (.p _) (.cons (.p _) (.cons (.p _) (.cons (.p _) (.cons (.p _) (.cons (.p _) (.cons (.p _) (.cons (.p _) (.cons (.p _) (.cons (.p _) (.cons (.p _) (.cons (.p _) (.cons (.p _) (.cons (.p _) (.cons (.p _) (.cons (.p _) (.cons (.p _) (.cons (.p _) (.cons (.p _) (.cons (.p _) (.cons (.p _) (.cons (.p _) (.cons (.p _) (.cons (.p _) (.cons (.p _) (.cons (.p _) (.cons (.p _) (.cons (.p _) (.cons (.p _) (.cons (.p _) (.cons (.p _) (.cons (.p _) (.cons (.p _) (.cons (.p _) p5))))))))))))))))))))))))))))))))))))))))))))))))))))) .nil) fun v58 h => ?_
               apply iU h <;> intro h
               ·cases h; exact (.p _)
               ·refine ifT (cF (by decide)) ?_
                refine Q2 k28 ?_
                refine cP h Q5 p2 fun v61 h => ?_
                apply iU h <;> intro h
                ·cases h; exact (.p _)
                ·refine ifF (cF (by decide)) ?_
                 cases h; exact (.p _)
          ·refine ifT (cF (by decide)) ?_
           refine Q2 k21 ?_
           apply iU h <;> intro h
           ·apply iU h <;> intro h
            ·cases h; exact (.p _)
            ·refine ifT (cF (by decide)) ?_
             refine Q2 k22 ?_
             refine ifT hc14 ?_
             refine cP h Z1 (.cons (Frz.agg' (.cons (.p _) (.cons (.p _) (.cons (.p _) (.cons (.p _) (.cons (.p _) (.cons (.p _) (.cons (.p _) (.cons (.p _) (.cons (.p _) (.cons (.p _) (.cons (.p _) (.cons (.p _) (.cons (.p _) (.cons (.p _) (.cons (.p _) (.cons (.p _) (.cons (.p _) (.cons (.p _) (.cons (.p _) (.cons (.p _) (.cons (.p _) (.cons (.p _) (.cons (.p _) (.cons (.p _) (.cons (.p _) (.cons (.p _) (.cons (.p _) (.cons (.p _) (.cons (.p _) (.cons (.p _) (.cons (.p _) (.cons (.p _) (.cons (.p _) (.cons (.p _) (.cons (.p _) (.cons (.p _) (.cons (.p _) (.cons (.p _) (.cons (.p _) (.cons (.p _) (.cons (.p _) (.cons (.p _) (.cons (.p _) (.cons (.p _) (.cons (.p _) (.cons (.p _) (.cons (.p _) (.cons (.p _) (.cons (.p _) (.cons (.p _) (.cons (.p _) (.cons (.p _) p5))))))))))))))))))))))))))))))))))))))))))))))))))))) .nil) fun v66 h => ?_
             apply iU h <;> intro h
             ·cases h; exact (.p _)
             ·refine ifF (Q47 hc14) ?_
              refine ifT (cF (by decide)) ?_
              refine Q2 k24 ?_
              refine cP h Qd p3 fun v69 h => ?_
              apply iU h <;> intro h
              ·cases h; exact (.p _)
              ·refine ifT (cF (by decide)) ?_
               refine Q2 k25 ?_
               apply iU h <;> intro h
               ·apply iU h <;> intro h
                ·cases h; exact (.p _)
                ·refine ifT (cF (by decide)) ?_
                 refine Q2 k26 ?_
                 refine cP h Q6 (.cons (Frz.agg' (.cons (.p _) (.cons (.p _) (.cons (.p _) (.cons (.p _) (.cons (.p _) (.cons (.p _) (.cons (.p _) (.cons (.p _) (.cons (.p _) (.cons (.p _) (.cons (.p _) (.cons (.p _) (.cons (.p _) (.cons (.p _) (.cons (.p _) (.cons (.p _) (.cons (.p _) (.cons (.p _) (.cons (.p _) (.cons (.p _) (.cons (.p _) (.cons (.p _) (.cons (.p _) (.cons (.p _) (.cons (.p _) (.cons (.p _) (.cons (.p _) (.cons (.p _) (.cons (.p _) (.cons (.p _) (.cons (.p _) (.cons (.p _) (.cons (.p _) (.cons (.p _) (.cons (.p _) (.cons (.p _) (.cons (.p _) (.cons (.p _) (.cons (.p _) (.cons (.p _) (.cons (.p _) (.cons (.p _) (.cons (.p _) (.cons (.p _) (.cons (.p _) (.cons (.p _) (.cons (.p _) (.cons (.p _) (.cons (.p _) (.cons (.p _) (.cons (.p _) (.cons (.p _) p5))))))))))))))))))))))))))))))))))))))))))))))))))))) .nil) fun v74 h => ?_
                 apply iU h <;> intro h
                 ·cases h; exact (.p _)
                 ·refine ifT (cF (by decide)) ?_
                  refine Q2 k28 ?_
                  refine cP h Q5 p2 fun v77 h => ?_
                  apply iU h <;> intro h
                  ·cases h; exact (.p _)
                  ·refine ifF (cF (by decide)) ?_
                   cases h; exact (.p _)
               ·refine ifT (cF (by decide)) ?_
                refine Q2 k26 ?_
                refine cP h Q6 (.cons (Frz.agg' (.cons (.p _) (.cons (.p _) (.cons (.p _) (.cons (.p _) (.cons (.p _) (.cons (.p _) (.cons (.p _) (.cons (.p _) (.cons (.p _) (.cons (.p _) (.cons (.p _) (.cons (.p _) (.cons (.p _) (.cons (.p _) (.cons (.p _) (.cons (.p _) (.cons (.p _) (.cons (.p _) (.cons (.p _) (.cons (.p _) (.cons (.p _) (.cons (.p _) (.cons (.p _) (.cons (.p _) (.cons (.p _) (.cons (.p _) (.cons (.p _) (.cons (.p _) (.cons (.p _) (.cons (.p _) (.cons (.p _) (.cons (.p _) (.cons (.p _) (.cons (.p _) (.cons (.p _) (.cons (.p _) (.cons (.p _) (.cons (.p _) (.cons (.p _) (.cons (.p _) (.cons (.p _) (.cons (.p _) (.cons (.p _) (.cons (.p _) (.cons (.p _) (.cons (.p _) (.cons (.p _) (.cons (.p _) (.cons (.p _) (.cons (.p _) (.cons (.p _) (.cons (.p _) p5))))))))))))))))))))))))))))))))))))))))))))))))))))) .nil) fun v80 h => ?_
                apply iU h <;> intro h
                ·cases h; exact (.p _)
                ·refine ifT (cF (by decide)) ?_
                 refine Q2 k28 ?_
                 refine cP h Q5 p2 fun v83 h => ?_
                 apply iU h <;> intro h
                 ·cases h; exact (.p _)
                 ·refine ifF (cF (by decide)) ?_
                  cases h; exact (.p _)
           ·refine ifT (cF (by decide)) ?_
            refine Q2 k22 ?_
            refine ifT hc14 ?_
            refine cP h Z1 (.cons (Frz.agg' (.cons (.p _) (.cons (.p _) (.cons (.p _) (.cons (.p _) (.cons (.p _) (.cons (.p _) (.cons (.p _) (.cons (.p _) (.cons (.p _) (.cons (.p _) (.cons (.p _) (.cons (.p _) (.cons (.p _) (.cons (.p _) (.cons (.p _) (.cons (.p _) (.cons (.p _) (.cons (.p _) (.cons (.p _) (.cons (.p _) (.cons (.p _) (.cons (.p _) (.cons (.p _) (.cons (.p _) (.cons (.p _) (.cons (.p _) (.cons (.p _) (.cons (.p _) (.cons (.p _) (.cons (.p _) (.cons (.p _) (.cons (.p _) (.cons (.p _) (.cons (.p _) (.cons (.p _) (.cons (.p _) (.cons (.p _) (.cons (.p _) (.cons (.p _) (.cons (.p _) (.cons (.p _) (.cons (.p _) (.cons (.p _) (.cons (.p _) (.cons (.p _) (.cons (.p _) (.cons (.p _) (.cons (.p _) (.cons (.p _) (.cons (.p _) (.cons (.p _) (.cons (.p _) p5))))))))))))))))))))))))))))))))))))))))))))))))))))) .nil) fun v86 h => ?_
            apply iU h <;> intro h
            ·cases h; exact (.p _)
            ·refine ifF (Q47 hc14) ?_
             refine ifT (cF (by decide)) ?_
             refine Q2 k24 ?_
             refine cP h Qd p3 fun v89 h => ?_
             apply iU h <;> intro h
             ·cases h; exact (.p _)
             ·refine ifT (cF (by decide)) ?_
              refine Q2 k25 ?_
              apply iU h <;> intro h
              ·apply iU h <;> intro h
               ·cases h; exact (.p _)
               ·refine ifT (cF (by decide)) ?_
                refine Q2 k26 ?_
                refine cP h Q6 (.cons (Frz.agg' (.cons (.p _) (.cons (.p _) (.cons (.p _) (.cons (.p _) (.cons (.p _) (.cons (.p _) (.cons (.p _) (.cons (.p _) (.cons (.p _) (.cons (.p _) (.cons (.p _) (.cons (.p _) (.cons (.p _) (.cons (.p _) (.cons (.p _) (.cons (.p _) (.cons (.p _) (.cons (.p _) (.cons (.p _) (.cons (.p _) (.cons (.p _) (.cons (.p _) (.cons (.p _) (.cons (.p _) (.cons (.p _) (.cons (.p _) (.cons (.p _) (.cons (.p _) (.cons (.p _) (.cons (.p _) (.cons (.p _) (.cons (.p _) (.cons (.p _) (.cons (.p _) (.cons (.p _) (.cons (.p _) (.cons (.p _) (.cons (.p _) (.cons (.p _) (.cons (.p _) (.cons (.p _) (.cons (.p _) (.cons (.p _) (.cons (.p _) (.cons (.p _) (.cons (.p _) (.cons (.p _) (.cons (.p _) (.cons (.p _) (.cons (.p _) (.cons (.p _) (.cons (.p _) p5))))))))))))))))))))))))))))))))))))))))))))))))))))) .nil) fun v94 h => ?_
                apply iU h <;> intro h
                ·cases h; exact (.p _)
                ·refine ifT (cF (by decide)) ?_
                 refine Q2 k28 ?_
                 refine cP h Q5 p2 fun v97 h => ?_
                 apply iU h <;> intro h
                 ·cases h; exact (.p _)
                 ·refine ifF (cF (by decide)) ?_
                  cases h; exact (.p _)
              ·refine ifT (cF (by decide)) ?_
               refine Q2 k26 ?_
               refine cP h Q6 (.cons (Frz.agg' (.cons (.p _) (.cons (.p _) (.cons (.p _) (.cons (.p _) (.cons (.p _) (.cons (.p _) (.cons (.p _) (.cons (.p _) (.cons (.p _) (.cons (.p _) (.cons (.p _) (.cons (.p _) (.cons (.p _) (.cons (.p _) (.cons (.p _) (.cons (.p _) (.cons (.p _) (.cons (.p _) (.cons (.p _) (.cons (.p _) (.cons (.p _) (.cons (.p _) (.cons (.p _) (.cons (.p _) (.cons (.p _) (.cons (.p _) (.cons (.p _) (.cons (.p _) (.cons (.p _) (.cons (.p _) (.cons (.p _) (.cons (.p _) (.cons (.p _) (.cons (.p _) (.cons (.p _) (.cons (.p _) (.cons (.p _) (.cons (.p _) (.cons (.p _) (.cons (.p _) (.cons (.p _) (.cons (.p _) (.cons (.p _) (.cons (.p _) (.cons (.p _) (.cons (.p _) (.cons (.p _) (.cons (.p _) (.cons (.p _) (.cons (.p _) (.cons (.p _) (.cons (.p _) p5))))))))))))))))))))))))))))))))))))))))))))))))))))) .nil) fun v100 h => ?_
               apply iU h <;> intro h
               ·cases h; exact (.p _)
               ·refine ifT (cF (by decide)) ?_
                refine Q2 k28 ?_
                refine cP h Q5 p2 fun v103 h => ?_
                apply iU h <;> intro h
                ·cases h; exact (.p _)
                ·refine ifF (cF (by decide)) ?_
                 cases h; exact (.p _)
         ·refine ifT (cF (by decide)) ?_
          refine Q2 k21 ?_
          apply iU h <;> intro h
          ·apply iU h <;> intro h
           ·cases h; exact (.p _)
           ·refine ifT (cF (by decide)) ?_
            refine Q2 k22 ?_
            refine ifT hc14 ?_
            refine cP h Z1 (.cons (Frz.agg' (.cons (.p _) (.cons (.p _) (.cons (.p _) (.cons (.p _) (.cons (.p _) (.cons (.p _) (.cons (.p _) (.cons (.p _) (.cons (.p _) (.cons (.p _) (.cons (.p _) (.cons (.p _) (.cons (.p _) (.cons (.p _) (.cons (.p _) (.cons (.p _) (.cons (.p _) (.cons (.p _) (.cons (.p _) (.cons (.p _) (.cons (.p _) (.cons (.p _) (.cons (.p _) (.cons (.p _) (.cons (.p _) (.cons (.p _) (.cons (.p _) (.cons (.p _) (.cons (.p _) (.cons (.p _) (.cons (.p _) (.cons (.p _) (.cons (.p _) (.cons (.p _) (.cons (.p _) (.cons (.p _) (.cons (.p _) (.cons (.p _) (.cons (.p _) (.cons (.p _) (.cons (.p _) (.cons (.p _) (.cons (.p _) (.cons (.p _) (.cons (.p _) (.cons (.p _) (.cons (.p _) (.cons (.p _) (.cons (.p _) (.cons (.p _) (.cons (.p _) (.cons (.p _) p5))))))))))))))))))))))))))))))))))))))))))))))))))))) .nil) fun v108 h => ?_
            apply iU h <;> intro h
            ·cases h; exact (.p _)
            ·refine ifF (Q47 hc14) ?_
             refine ifT (cF (by decide)) ?_
             refine Q2 k24 ?_
             refine cP h Qd p3 fun v111 h => ?_
             apply iU h <;> intro h
             ·cases h; exact (.p _)
             ·refine ifT (cF (by decide)) ?_
              refine Q2 k25 ?_
              apply iU h <;> intro h
              ·apply iU h <;> intro h
               ·cases h; exact (.p _)
               ·refine ifT (cF (by decide)) ?_
                refine Q2 k26 ?_
                refine cP h Q6 (.cons (Frz.agg' (.cons (.p _) (.cons (.p _) (.cons (.p _) (.cons (.p _) (.cons (.p _) (.cons (.p _) (.cons (.p _) (.cons (.p _) (.cons (.p _) (.cons (.p _) (.cons (.p _) (.cons (.p _) (.cons (.p _) (.cons (.p _) (.cons (.p _) (.cons (.p _) (.cons (.p _) (.cons (.p _) (.cons (.p _) (.cons (.p _) (.cons (.p _) (.cons (.p _) (.cons (.p _) (.cons (.p _) (.cons (.p _) (.cons (.p _) (.cons (.p _) (.cons (.p _) (.cons (.p _) (.cons (.p _) (.cons (.p _) (.cons (.p _) (.cons (.p _) (.cons (.p _) (.cons (.p _) (.cons (.p _) (.cons (.p _) (.cons (.p _) (.cons (.p _) (.cons (.p _) (.cons (.p _) (.cons (.p _) (.cons (.p _) (.cons (.p _) (.cons (.p _) (.cons (.p _) (.cons (.p _) (.cons (.p _) (.cons (.p _) (.cons (.p _) (.cons (.p _) (.cons (.p _) p5))))))))))))))))))))))))))))))))))))))))))))))))))))) .nil) fun v116 h => ?_
                apply iU h <;> intro h
                ·cases h; exact (.p _)
                ·refine ifT (cF (by decide)) ?_
                 refine Q2 k28 ?_
                 refine cP h Q5 p2 fun v119 h => ?_
                 apply iU h <;> intro h
                 ·cases h; exact (.p _)
                 ·refine ifF (cF (by decide)) ?_
                  cases h; exact (.p _)
              ·refine ifT (cF (by decide)) ?_
               refine Q2 k26 ?_
               refine cP h Q6 (.cons (Frz.agg' (.cons (.p _) (.cons (.p _) (.cons (.p _) (.cons (.p _) (.cons (.p _) (.cons (.p _) (.cons (.p _) (.cons (.p _) (.cons (.p _) (.cons (.p _) (.cons (.p _) (.cons (.p _) (.cons (.p _) (.cons (.p _) (.cons (.p _) (.cons (.p _) (.cons (.p _) (.cons (.p _) (.cons (.p _) (.cons (.p _) (.cons (.p _) (.cons (.p _) (.cons (.p _) (.cons (.p _) (.cons (.p _) (.cons (.p _) (.cons (.p _) (.cons (.p _) (.cons (.p _) (.cons (.p _) (.cons (.p _) (.cons (.p _) (.cons (.p _) (.cons (.p _) (.cons (.p _) (.cons (.p _) (.cons (.p _) (.cons (.p _) (.cons (.p _) (.cons (.p _) (.cons (.p _) (.cons (.p _) (.cons (.p _) (.cons (.p _) (.cons (.p _) (.cons (.p _) (.cons (.p _) (.cons (.p _) (.cons (.p _) (.cons (.p _) (.cons (.p _) (.cons (.p _) p5))))))))))))))))))))))))))))))))))))))))))))))))))))) .nil) fun v122 h => ?_
               apply iU h <;> intro h
               ·cases h; exact (.p _)
               ·refine ifT (cF (by decide)) ?_
                refine Q2 k28 ?_
                refine cP h Q5 p2 fun v125 h => ?_
                apply iU h <;> intro h
                ·cases h; exact (.p _)
                ·refine ifF (cF (by decide)) ?_
                 cases h; exact (.p _)
          ·refine ifT (cF (by decide)) ?_
           refine Q2 k22 ?_
           refine ifT hc14 ?_
           refine cP h Z1 (.cons (Frz.agg' (.cons (.p _) (.cons (.p _) (.cons (.p _) (.cons (.p _) (.cons (.p _) (.cons (.p _) (.cons (.p _) (.cons (.p _) (.cons (.p _) (.cons (.p _) (.cons (.p _) (.cons (.p _) (.cons (.p _) (.cons (.p _) (.cons (.p _) (.cons (.p _) (.cons (.p _) (.cons (.p _) (.cons (.p _) (.cons (.p _) (.cons (.p _) (.cons (.p _) (.cons (.p _) (.cons (.p _) (.cons (.p _) (.cons (.p _) (.cons (.p _) (.cons (.p _) (.cons (.p _) (.cons (.p _) (.cons (.p _) (.cons (.p _) (.cons (.p _) (.cons (.p _) (.cons (.p _) (.cons (.p _) (.cons (.p _) (.cons (.p _) (.cons (.p _) (.cons (.p _) (.cons (.p _) (.cons (.p _) (.cons (.p _) (.cons (.p _) (.cons (.p _) (.cons (.p _) (.cons (.p _) (.cons (.p _) (.cons (.p _) (.cons (.p _) (.cons (.p _) (.cons (.p _) p5))))))))))))))))))))))))))))))))))))))))))))))))))))) .nil) fun v128 h => ?_
           apply iU h <;> intro h
           ·cases h; exact (.p _)
           ·refine ifF (Q47 hc14) ?_
            refine ifT (cF (by decide)) ?_
            refine Q2 k24 ?_
            refine cP h Qd p3 fun v131 h => ?_
            apply iU h <;> intro h
            ·cases h; exact (.p _)
            ·refine ifT (cF (by decide)) ?_
             refine Q2 k25 ?_
             apply iU h <;> intro h
             ·apply iU h <;> intro h
              ·cases h; exact (.p _)
              ·refine ifT (cF (by decide)) ?_
               refine Q2 k26 ?_
               refine cP h Q6 (.cons (Frz.agg' (.cons (.p _) (.cons (.p _) (.cons (.p _) (.cons (.p _) (.cons (.p _) (.cons (.p _) (.cons (.p _) (.cons (.p _) (.cons (.p _) (.cons (.p _) (.cons (.p _) (.cons (.p _) (.cons (.p _) (.cons (.p _) (.cons (.p _) (.cons (.p _) (.cons (.p _) (.cons (.p _) (.cons (.p _) (.cons (.p _) (.cons (.p _) (.cons (.p _) (.cons (.p _) (.cons (.p _) (.cons (.p _) (.cons (.p _) (.cons (.p _) (.cons (.p _) (.cons (.p _) (.cons (.p _) (.cons (.p _) (.cons (.p _) (.cons (.p _) (.cons (.p _) (.cons (.p _) (.cons (.p _) (.cons (.p _) (.cons (.p _) (.cons (.p _) (.cons (.p _) (.cons (.p _) (.cons (.p _) (.cons (.p _) (.cons (.p _) (.cons (.p _) (.cons (.p _) (.cons (.p _) (.cons (.p _) (.cons (.p _) (.cons (.p _) (.cons (.p _) (.cons (.p _) p5))))))))))))))))))))))))))))))))))))))))))))))))))))) .nil) fun v136 h => ?_
               apply iU h <;> intro h
               ·cases h; exact (.p _)
               ·refine ifT (cF (by decide)) ?_
                refine Q2 k28 ?_
                refine cP h Q5 p2 fun v139 h => ?_
                apply iU h <;> intro h
                ·cases h; exact (.p _)
                ·refine ifF (cF (by decide)) ?_
                 cases h; exact (.p _)
             ·refine ifT (cF (by decide)) ?_
              refine Q2 k26 ?_
              refine cP h Q6 (.cons (Frz.agg' (.cons (.p _) (.cons (.p _) (.cons (.p _) (.cons (.p _) (.cons (.p _) (.cons (.p _) (.cons (.p _) (.cons (.p _) (.cons (.p _) (.cons (.p _) (.cons (.p _) (.cons (.p _) (.cons (.p _) (.cons (.p _) (.cons (.p _) (.cons (.p _) (.cons (.p _) (.cons (.p _) (.cons (.p _) (.cons (.p _) (.cons (.p _) (.cons (.p _) (.cons (.p _) (.cons (.p _) (.cons (.p _) (.cons (.p _) (.cons (.p _) (.cons (.p _) (.cons (.p _) (.cons (.p _) (.cons (.p _) (.cons (.p _) (.cons (.p _) (.cons (.p _) (.cons (.p _) (.cons (.p _) (.cons (.p _) (.cons (.p _) (.cons (.p _) (.cons (.p _) (.cons (.p _) (.cons (.p _) (.cons (.p _) (.cons (.p _) (.cons (.p _) (.cons (.p _) (.cons (.p _) (.cons (.p _) (.cons (.p _) (.cons (.p _) (.cons (.p _) (.cons (.p _) p5))))))))))))))))))))))))))))))))))))))))))))))))))))) .nil) fun v142 h => ?_
              apply iU h <;> intro h
              ·cases h; exact (.p _)
              ·refine ifT (cF (by decide)) ?_
               refine Q2 k28 ?_
               refine cP h Q5 p2 fun v145 h => ?_
               apply iU h <;> intro h
               ·cases h; exact (.p _)
               ·refine ifF (cF (by decide)) ?_
                cases h; exact (.p _)
     ·cases h; exact (.p _)
    ·refine ifT (cF (by decide)) ?_
     refine Q2 k19 ?_
     refine cP h Qd p3 fun v148 h => ?_
     apply iU h <;> intro h
     ·cases h; exact (.p _)
     ·apply iU h <;> intro h
      ·cases h; exact (.p _)
      ·refine ifT (cF (by decide)) ?_
       refine Q2 k20 ?_
       apply iU h <;> intro h
       ·apply iU h <;> intro h
        ·refine ifO h (fun hc154 h => ?_) (fun hc154 h => ?_)
         ·cases h; exact (.p _)
         ·refine ifT (cF (by decide)) ?_
          refine Q2 k21 ?_
          apply iU h <;> intro h
          ·apply iU h <;> intro h
           ·cases h; exact (.p _)
           ·refine ifT (cF (by decide)) ?_
            refine Q2 k22 ?_
            apply iU h <;> intro h
            ·refine cP h Z1 (.cons (Frz.agg' (.cons (.p _) (.cons (.p _) (.cons (.p _) (.cons (.p _) (.cons (.p _) (.cons (.p _) (.cons (.p _) (.cons (.p _) (.cons (.p _) (.cons (.p _) (.cons (.p _) (.cons (.p _) (.cons (.p _) (.cons (.p _) (.cons (.p _) (.cons (.p _) (.cons (.p _) (.cons (.p _) (.cons (.p _) (.cons (.p _) (.cons (.p _) (.cons (.p _) (.cons (.p _) (.cons (.p _) (.cons (.p _) (.cons (.p _) (.cons (.p _) (.cons (.p _) (.cons (.p _) (.cons (.p _) (.cons (.p _) (.cons (.p _) (.cons (.p _) (.cons (.p _) (.cons (.p _) (.cons (.p _) (.cons (.p _) (.cons (.p _) (.cons (.p _) (.cons (.p _) (.cons (.p _) (.cons (.p _) (.cons (.p _) (.cons (.p _) (.cons (.p _) (.cons (.p _) (.cons (.p _) (.cons (.p _) (.cons (.p _) (.cons (.p _) (.cons (.p _) (.cons (.p _) p5))))))))))))))))))))))))))))))))))))))))))))))))))))) .nil) fun v158 h => ?_
             apply iU h <;> intro h
             ·cases h; exact (.p _)
             ·refine ifF hc154 ?_
              refine ifT (cF (by decide)) ?_
              refine Q2 k24 ?_
              refine cP h Qd p3 fun v161 h => ?_
              apply iU h <;> intro h
              ·cases h; exact (.p _)
              ·refine ifT (cF (by decide)) ?_
               refine Q2 k25 ?_
               apply iU h <;> intro h
               ·apply iU h <;> intro h
                ·cases h; exact (.p _)
                ·refine ifT (cF (by decide)) ?_
                 refine Q2 k26 ?_
                 refine cP h Q6 (.cons (Frz.agg' (.cons (.p _) (.cons (.p _) (.cons (.p _) (.cons (.p _) (.cons (.p _) (.cons (.p _) (.cons (.p _) (.cons (.p _) (.cons (.p _) (.cons (.p _) (.cons (.p _) (.cons (.p _) (.cons (.p _) (.cons (.p _) (.cons (.p _) (.cons (.p _) (.cons (.p _) (.cons (.p _) (.cons (.p _) (.cons (.p _) (.cons (.p _) (.cons (.p _) (.cons (.p _) (.cons (.p _) (.cons (.p _) (.cons (.p _) (.cons (.p _) (.cons (.p _) (.cons (.p _) (.cons (.p _) (.cons (.p _) (.cons (.p _) (.cons (.p _) (.cons (.p _) (.cons (.p _) (.cons (.p _) (.cons (.p _) (.cons (.p _) (.cons (.p _) (.cons (.p _) (.cons (.p _) (.cons (.p _) (.cons (.p _) (.cons (.p _) (.cons (.p _) (.cons (.p _) (.cons (.p _) (.cons (.p _) (.cons (.p _) (.cons (.p _) (.cons (.p _) (.cons (.p _) p5))))))))))))))))))))))))))))))))))))))))))))))))))))) .nil) fun v166 h => ?_
                 apply iU h <;> intro h
                 ·cases h; exact (.p _)
                 ·refine ifT (cF (by decide)) ?_
                  refine Q2 k28 ?_
                  refine cP h Q5 p2 fun v169 h => ?_
                  apply iU h <;> intro h
                  ·cases h; exact (.p _)
                  ·refine ifF (cF (by decide)) ?_
                   cases h; exact (.p _)
               ·refine ifT (cF (by decide)) ?_
                refine Q2 k26 ?_
                refine cP h Q6 (.cons (Frz.agg' (.cons (.p _) (.cons (.p _) (.cons (.p _) (.cons (.p _) (.cons (.p _) (.cons (.p _) (.cons (.p _) (.cons (.p _) (.cons (.p _) (.cons (.p _) (.cons (.p _) (.cons (.p _) (.cons (.p _) (.cons (.p _) (.cons (.p _) (.cons (.p _) (.cons (.p _) (.cons (.p _) (.cons (.p _) (.cons (.p _) (.cons (.p _) (.cons (.p _) (.cons (.p _) (.cons (.p _) (.cons (.p _) (.cons (.p _) (.cons (.p _) (.cons (.p _) (.cons (.p _) (.cons (.p _) (.cons (.p _) (.cons (.p _) (.cons (.p _) (.cons (.p _) (.cons (.p _) (.cons (.p _) (.cons (.p _) (.cons (.p _) (.cons (.p _) (.cons (.p _) (.cons (.p _) (.cons (.p _) (.cons (.p _) (.cons (.p _) (.cons (.p _) (.cons (.p _) (.cons (.p _) (.cons (.p _) (.cons (.p _) (.cons (.p _) (.cons (.p _) (.cons (.p _) p5))))))))))))))))))))))))))))))))))))))))))))))))))))) .nil) fun v172 h => ?_
                apply iU h <;> intro h
                ·cases h; exact (.p _)
                ·refine ifT (cF (by decide)) ?_
                 refine Q2 k28 ?_
                 refine cP h Q5 p2 fun v175 h => ?_
                 apply iU h <;> intro h
                 ·cases h; exact (.p _)
                 ·refine ifF (cF (by decide)) ?_
                  cases h; exact (.p _)
            ·refine ifF hc154 ?_
             refine ifT (cF (by decide)) ?_
             refine Q2 k24 ?_
             refine cP h Qd p3 fun v178 h => ?_
             apply iU h <;> intro h
             ·cases h; exact (.p _)
             ·refine ifT (cF (by decide)) ?_
              refine Q2 k25 ?_
              apply iU h <;> intro h
              ·apply iU h <;> intro h
               ·cases h; exact (.p _)
               ·refine ifT (cF (by decide)) ?_
                refine Q2 k26 ?_
                refine cP h Q6 (.cons (Frz.agg' (.cons (.p _) (.cons (.p _) (.cons (.p _) (.cons (.p _) (.cons (.p _) (.cons (.p _) (.cons (.p _) (.cons (.p _) (.cons (.p _) (.cons (.p _) (.cons (.p _) (.cons (.p _) (.cons (.p _) (.cons (.p _) (.cons (.p _) (.cons (.p _) (.cons (.p _) (.cons (.p _) (.cons (.p _) (.cons (.p _) (.cons (.p _) (.cons (.p _) (.cons (.p _) (.cons (.p _) (.cons (.p _) (.cons (.p _) (.cons (.p _) (.cons (.p _) (.cons (.p _) (.cons (.p _) (.cons (.p _) (.cons (.p _) (.cons (.p _) (.cons (.p _) (.cons (.p _) (.cons (.p _) (.cons (.p _) (.cons (.p _) (.cons (.p _) (.cons (.p _) (.cons (.p _) (.cons (.p _) (.cons (.p _) (.cons (.p _) (.cons (.p _) (.cons (.p _) (.cons (.p _) (.cons (.p _) (.cons (.p _) (.cons (.p _) (.cons (.p _) (.cons (.p _) p5))))))))))))))))))))))))))))))))))))))))))))))))))))) .nil) fun v183 h => ?_
                apply iU h <;> intro h
                ·cases h; exact (.p _)
                ·refine ifT (cF (by decide)) ?_
                 refine Q2 k28 ?_
                 refine cP h Q5 p2 fun v186 h => ?_
                 apply iU h <;> intro h
                 ·cases h; exact (.p _)
                 ·refine ifF (cF (by decide)) ?_
                  cases h; exact (.p _)
              ·refine ifT (cF (by decide)) ?_
               refine Q2 k26 ?_
               refine cP h Q6 (.cons (Frz.agg' (.cons (.p _) (.cons (.p _) (.cons (.p _) (.cons (.p _) (.cons (.p _) (.cons (.p _) (.cons (.p _) (.cons (.p _) (.cons (.p _) (.cons (.p _) (.cons (.p _) (.cons (.p _) (.cons (.p _) (.cons (.p _) (.cons (.p _) (.cons (.p _) (.cons (.p _) (.cons (.p _) (.cons (.p _) (.cons (.p _) (.cons (.p _) (.cons (.p _) (.cons (.p _) (.cons (.p _) (.cons (.p _) (.cons (.p _) (.cons (.p _) (.cons (.p _) (.cons (.p _) (.cons (.p _) (.cons (.p _) (.cons (.p _) (.cons (.p _) (.cons (.p _) (.cons (.p _) (.cons (.p _) (.cons (.p _) (.cons (.p _) (.cons (.p _) (.cons (.p _) (.cons (.p _) (.cons (.p _) (.cons (.p _) (.cons (.p _) (.cons (.p _) (.cons (.p _) (.cons (.p _) (.cons (.p _) (.cons (.p _) (.cons (.p _) (.cons (.p _) (.cons (.p _) p5))))))))))))))))))))))))))))))))))))))))))))))))))))) .nil) fun v189 h => ?_
               apply iU h <;> intro h
               ·cases h; exact (.p _)
               ·refine ifT (cF (by decide)) ?_
                refine Q2 k28 ?_
                refine cP h Q5 p2 fun v192 h => ?_
                apply iU h <;> intro h
                ·cases h; exact (.p _)
                ·refine ifF (cF (by decide)) ?_
                 cases h; exact (.p _)
          ·refine ifT (cF (by decide)) ?_
           refine Q2 k22 ?_
           apply iU h <;> intro h
           ·refine cP h Z1 (.cons (Frz.agg' (.cons (.p _) (.cons (.p _) (.cons (.p _) (.cons (.p _) (.cons (.p _) (.cons (.p _) (.cons (.p _) (.cons (.p _) (.cons (.p _) (.cons (.p _) (.cons (.p _) (.cons (.p _) (.cons (.p _) (.cons (.p _) (.cons (.p _) (.cons (.p _) (.cons (.p _) (.cons (.p _) (.cons (.p _) (.cons (.p _) (.cons (.p _) (.cons (.p _) (.cons (.p _) (.cons (.p _) (.cons (.p _) (.cons (.p _) (.cons (.p _) (.cons (.p _) (.cons (.p _) (.cons (.p _) (.cons (.p _) (.cons (.p _) (.cons (.p _) (.cons (.p _) (.cons (.p _) (.cons (.p _) (.cons (.p _) (.cons (.p _) (.cons (.p _) (.cons (.p _) (.cons (.p _) (.cons (.p _) (.cons (.p _) (.cons (.p _) (.cons (.p _) (.cons (.p _) (.cons (.p _) (.cons (.p _) (.cons (.p _) (.cons (.p _) (.cons (.p _) (.cons (.p _) p5))))))))))))))))))))))))))))))))))))))))))))))))))))) .nil) fun v196 h => ?_
            apply iU h <;> intro h
            ·cases h; exact (.p _)
            ·refine ifF hc154 ?_
             refine ifT (cF (by decide)) ?_
             refine Q2 k24 ?_
             refine cP h Qd p3 fun v199 h => ?_
             apply iU h <;> intro h
             ·cases h; exact (.p _)
             ·refine ifT (cF (by decide)) ?_
              refine Q2 k25 ?_
              apply iU h <;> intro h
              ·apply iU h <;> intro h
               ·cases h; exact (.p _)
               ·refine ifT (cF (by decide)) ?_
                refine Q2 k26 ?_
                refine cP h Q6 (.cons (Frz.agg' (.cons (.p _) (.cons (.p _) (.cons (.p _) (.cons (.p _) (.cons (.p _) (.cons (.p _) (.cons (.p _) (.cons (.p _) (.cons (.p _) (.cons (.p _) (.cons (.p _) (.cons (.p _) (.cons (.p _) (.cons (.p _) (.cons (.p _) (.cons (.p _) (.cons (.p _) (.cons (.p _) (.cons (.p _) (.cons (.p _) (.cons (.p _) (.cons (.p _) (.cons (.p _) (.cons (.p _) (.cons (.p _) (.cons (.p _) (.cons (.p _) (.cons (.p _) (.cons (.p _) (.cons (.p _) (.cons (.p _) (.cons (.p _) (.cons (.p _) (.cons (.p _) (.cons (.p _) (.cons (.p _) (.cons (.p _) (.cons (.p _) (.cons (.p _) (.cons (.p _) (.cons (.p _) (.cons (.p _) (.cons (.p _) (.cons (.p _) (.cons (.p _) (.cons (.p _) (.cons (.p _) (.cons (.p _) (.cons (.p _) (.cons (.p _) (.cons (.p _) (.cons (.p _) p5))))))))))))))))))))))))))))))))))))))))))))))))))))) .nil) fun v204 h => ?_
                apply iU h <;> intro h
                ·cases h; exact (.p _)
                ·refine ifT (cF (by decide)) ?_
                 refine Q2 k28 ?_
                 refine cP h Q5 p2 fun v207 h => ?_
                 apply iU h <;> intro h
                 ·cases h; exact (.p _)
                 ·refine ifF (cF (by decide)) ?_
                  cases h; exact (.p _)
              ·refine ifT (cF (by decide)) ?_
               refine Q2 k26 ?_
               refine cP h Q6 (.cons (Frz.agg' (.cons (.p _) (.cons (.p _) (.cons (.p _) (.cons (.p _) (.cons (.p _) (.cons (.p _) (.cons (.p _) (.cons (.p _) (.cons (.p _) (.cons (.p _) (.cons (.p _) (.cons (.p _) (.cons (.p _) (.cons (.p _) (.cons (.p _) (.cons (.p _) (.cons (.p _) (.cons (.p _) (.cons (.p _) (.cons (.p _) (.cons (.p _) (.cons (.p _) (.cons (.p _) (.cons (.p _) (.cons (.p _) (.cons (.p _) (.cons (.p _) (.cons (.p _) (.cons (.p _) (.cons (.p _) (.cons (.p _) (.cons (.p _) (.cons (.p _) (.cons (.p _) (.cons (.p _) (.cons (.p _) (.cons (.p _) (.cons (.p _) (.cons (.p _) (.cons (.p _) (.cons (.p _) (.cons (.p _) (.cons (.p _) (.cons (.p _) (.cons (.p _) (.cons (.p _) (.cons (.p _) (.cons (.p _) (.cons (.p _) (.cons (.p _) (.cons (.p _) (.cons (.p _) p5))))))))))))))))))))))))))))))))))))))))))))))))))))) .nil) fun v210 h => ?_
               apply iU h <;> intro h
               ·cases h; exact (.p _)
               ·refine ifT (cF (by decide)) ?_
                refine Q2 k28 ?_
                refine cP h Q5 p2 fun v213 h => ?_
                apply iU h <;> intro h
                ·cases h; exact (.p _)
                ·refine ifF (cF (by decide)) ?_
                 cases h; exact (.p _)
           ·refine ifF hc154 ?_
            refine ifT (cF (by decide)) ?_
            refine Q2 k24 ?_
            refine cP h Qd p3 fun v216 h => ?_
            apply iU h <;> intro h
            ·cases h; exact (.p _)
            ·refine ifT (cF (by decide)) ?_
             refine Q2 k25 ?_
             apply iU h <;> intro h
             ·apply iU h <;> intro h
              ·cases h; exact (.p _)
              ·refine ifT (cF (by decide)) ?_
               refine Q2 k26 ?_
               refine cP h Q6 (.cons (Frz.agg' (.cons (.p _) (.cons (.p _) (.cons (.p _) (.cons (.p _) (.cons (.p _) (.cons (.p _) (.cons (.p _) (.cons (.p _) (.cons (.p _) (.cons (.p _) (.cons (.p _) (.cons (.p _) (.cons (.p _) (.cons (.p _) (.cons (.p _) (.cons (.p _) (.cons (.p _) (.cons (.p _) (.cons (.p _) (.cons (.p _) (.cons (.p _) (.cons (.p _) (.cons (.p _) (.cons (.p _) (.cons (.p _) (.cons (.p _) (.cons (.p _) (.cons (.p _) (.cons (.p _) (.cons (.p _) (.cons (.p _) (.cons (.p _) (.cons (.p _) (.cons (.p _) (.cons (.p _) (.cons (.p _) (.cons (.p _) (.cons (.p _) (.cons (.p _) (.cons (.p _) (.cons (.p _) (.cons (.p _) (.cons (.p _) (.cons (.p _) (.cons (.p _) (.cons (.p _) (.cons (.p _) (.cons (.p _) (.cons (.p _) (.cons (.p _) (.cons (.p _) (.cons (.p _) p5))))))))))))))))))))))))))))))))))))))))))))))))))))) .nil) fun v221 h => ?_
               apply iU h <;> intro h
               ·cases h; exact (.p _)
               ·refine ifT (cF (by decide)) ?_
                refine Q2 k28 ?_
                refine cP h Q5 p2 fun v224 h => ?_
                apply iU h <;> intro h
                ·cases h; exact (.p _)
                ·refine ifF (cF (by decide)) ?_
                 cases h; exact (.p _)
             ·refine ifT (cF (by decide)) ?_
              refine Q2 k26 ?_
              refine cP h Q6 (.cons (Frz.agg' (.cons (.p _) (.cons (.p _) (.cons (.p _) (.cons (.p _) (.cons (.p _) (.cons (.p _) (.cons (.p _) (.cons (.p _) (.cons (.p _) (.cons (.p _) (.cons (.p _) (.cons (.p _) (.cons (.p _) (.cons (.p _) (.cons (.p _) (.cons (.p _) (.cons (.p _) (.cons (.p _) (.cons (.p _) (.cons (.p _) (.cons (.p _) (.cons (.p _) (.cons (.p _) (.cons (.p _) (.cons (.p _) (.cons (.p _) (.cons (.p _) (.cons (.p _) (.cons (.p _) (.cons (.p _) (.cons (.p _) (.cons (.p _) (.cons (.p _) (.cons (.p _) (.cons (.p _) (.cons (.p _) (.cons (.p _) (.cons (.p _) (.cons (.p _) (.cons (.p _) (.cons (.p _) (.cons (.p _) (.cons (.p _) (.cons (.p _) (.cons (.p _) (.cons (.p _) (.cons (.p _) (.cons (.p _) (.cons (.p _) (.cons (.p _) (.cons (.p _) (.cons (.p _) p5))))))))))))))))))))))))))))))))))))))))))))))))))))) .nil) fun v227 h => ?_
              apply iU h <;> intro h
              ·cases h; exact (.p _)
              ·refine ifT (cF (by decide)) ?_
               refine Q2 k28 ?_
               refine cP h Q5 p2 fun v230 h => ?_
               apply iU h <;> intro h
               ·cases h; exact (.p _)
               ·refine ifF (cF (by decide)) ?_
                cases h; exact (.p _)
        ·refine ifT (cF (by decide)) ?_
         refine Q2 k21 ?_
         apply iU h <;> intro h
         ·apply iU h <;> intro h
          ·cases h; exact (.p _)
          ·refine ifT (cF (by decide)) ?_
           refine Q2 k22 ?_
           refine ifO h (fun hc235 h => ?_) (fun hc235 h => ?_)
           ·refine cP h Z1 (.cons (Frz.agg' (.cons (.p _) (.cons (.p _) (.cons (.p _) (.cons (.p _) (.cons (.p _) (.cons (.p _) (.cons (.p _) (.cons (.p _) (.cons (.p _) (.cons (.p _) (.cons (.p _) (.cons (.p _) (.cons (.p _) (.cons (.p _) (.cons (.p _) (.cons (.p _) (.cons (.p _) (.cons (.p _) (.cons (.p _) (.cons (.p _) (.cons (.p _) (.cons (.p _) (.cons (.p _) (.cons (.p _) (.cons (.p _) (.cons (.p _) (.cons (.p _) (.cons (.p _) (.cons (.p _) (.cons (.p _) (.cons (.p _) (.cons (.p _) (.cons (.p _) (.cons (.p _) (.cons (.p _) (.cons (.p _) (.cons (.p _) (.cons (.p _) (.cons (.p _) (.cons (.p _) (.cons (.p _) (.cons (.p _) (.cons (.p _) (.cons (.p _) (.cons (.p _) (.cons (.p _) (.cons (.p _) (.cons (.p _) (.cons (.p _) (.cons (.p _) (.cons (.p _) (.cons (.p _) p5))))))))))))))))))))))))))))))))))))))))))))))))))))) .nil) fun v236 h => ?_
            apply iU h <;> intro h
            ·cases h; exact (.p _)
            ·refine ifF (Q47 hc235) ?_
             refine ifT (cF (by decide)) ?_
             refine Q2 k24 ?_
             refine cP h Qd p3 fun v239 h => ?_
             apply iU h <;> intro h
             ·cases h; exact (.p _)
             ·refine ifT (cF (by decide)) ?_
              refine Q2 k25 ?_
              apply iU h <;> intro h
              ·apply iU h <;> intro h
               ·cases h; exact (.p _)
               ·refine ifT (cF (by decide)) ?_
                refine Q2 k26 ?_
                refine cP h Q6 (.cons (Frz.agg' (.cons (.p _) (.cons (.p _) (.cons (.p _) (.cons (.p _) (.cons (.p _) (.cons (.p _) (.cons (.p _) (.cons (.p _) (.cons (.p _) (.cons (.p _) (.cons (.p _) (.cons (.p _) (.cons (.p _) (.cons (.p _) (.cons (.p _) (.cons (.p _) (.cons (.p _) (.cons (.p _) (.cons (.p _) (.cons (.p _) (.cons (.p _) (.cons (.p _) (.cons (.p _) (.cons (.p _) (.cons (.p _) (.cons (.p _) (.cons (.p _) (.cons (.p _) (.cons (.p _) (.cons (.p _) (.cons (.p _) (.cons (.p _) (.cons (.p _) (.cons (.p _) (.cons (.p _) (.cons (.p _) (.cons (.p _) (.cons (.p _) (.cons (.p _) (.cons (.p _) (.cons (.p _) (.cons (.p _) (.cons (.p _) (.cons (.p _) (.cons (.p _) (.cons (.p _) (.cons (.p _) (.cons (.p _) (.cons (.p _) (.cons (.p _) (.cons (.p _) (.cons (.p _) p5))))))))))))))))))))))))))))))))))))))))))))))))))))) .nil) fun v244 h => ?_
                apply iU h <;> intro h
                ·cases h; exact (.p _)
                ·refine ifT (cF (by decide)) ?_
                 refine Q2 k28 ?_
                 refine cP h Q5 p2 fun v247 h => ?_
                 apply iU h <;> intro h
                 ·cases h; exact (.p _)
                 ·refine ifF (cF (by decide)) ?_
                  cases h; exact (.p _)
              ·refine ifT (cF (by decide)) ?_
               refine Q2 k26 ?_
               refine cP h Q6 (.cons (Frz.agg' (.cons (.p _) (.cons (.p _) (.cons (.p _) (.cons (.p _) (.cons (.p _) (.cons (.p _) (.cons (.p _) (.cons (.p _) (.cons (.p _) (.cons (.p _) (.cons (.p _) (.cons (.p _) (.cons (.p _) (.cons (.p _) (.cons (.p _) (.cons (.p _) (.cons (.p _) (.cons (.p _) (.cons (.p _) (.cons (.p _) (.cons (.p _) (.cons (.p _) (.cons (.p _) (.cons (.p _) (.cons (.p _) (.cons (.p _) (.cons (.p _) (.cons (.p _) (.cons (.p _) (.cons (.p _) (.cons (.p _) (.cons (.p _) (.cons (.p _) (.cons (.p _) (.cons (.p _) (.cons (.p _) (.cons (.p _) (.cons (.p _) (.cons (.p _) (.cons (.p _) (.cons (.p _) (.cons (.p _) (.cons (.p _) (.cons (.p _) (.cons (.p _) (.cons (.p _) (.cons (.p _) (.cons (.p _) (.cons (.p _) (.cons (.p _) (.cons (.p _) (.cons (.p _) p5))))))))))))))))))))))))))))))))))))))))))))))))))))) .nil) fun v250 h => ?_
               apply iU h <;> intro h
               ·cases h; exact (.p _)
               ·refine ifT (cF (by decide)) ?_
                refine Q2 k28 ?_
                refine cP h Q5 p2 fun v253 h => ?_
                apply iU h <;> intro h
                ·cases h; exact (.p _)
                ·refine ifF (cF (by decide)) ?_
                 cases h; exact (.p _)
           ·refine ifT (Qgb hc235) ?_
            apply iU h <;> intro h
            ·cases h; exact (.p _)
            ·apply iU h <;> intro h
             ·cases h; exact (.p _)
             ·refine ifT (cF (by decide)) ?_
              refine Q2 k24 ?_
              refine cP h Qd p3 fun v258 h => ?_
              apply iU h <;> intro h
              ·cases h; exact (.p _)
              ·refine ifT (cF (by decide)) ?_
               refine Q2 k25 ?_
               apply iU h <;> intro h
               ·apply iU h <;> intro h
                ·cases h; exact (.p _)
                ·refine ifT (cF (by decide)) ?_
                 refine Q2 k26 ?_
                 refine cP h Q6 (.cons (Frz.agg' (.cons (.p _) (.cons (.p _) (.cons (.p _) (.cons (.p _) (.cons (.p _) (.cons (.p _) (.cons (.p _) (.cons (.p _) (.cons (.p _) (.cons (.p _) (.cons (.p _) (.cons (.p _) (.cons (.p _) (.cons (.p _) (.cons (.p _) (.cons (.p _) (.cons (.p _) (.cons (.p _) (.cons (.p _) (.cons (.p _) (.cons (.p _) (.cons (.p _) (.cons (.p _) (.cons (.p _) (.cons (.p _) (.cons (.p _) (.cons (.p _) (.cons (.p _) (.cons (.p _) (.cons (.p _) (.cons (.p _) (.cons (.p _) (.cons (.p _) (.cons (.p _) (.cons (.p _) (.cons (.p _) (.cons (.p _) (.cons (.p _) (.cons (.p _) (.cons (.p _) (.cons (.p _) (.cons (.p _) (.cons (.p _) (.cons (.p _) (.cons (.p _) (.cons (.p _) (.cons (.p _) (.cons (.p _) (.cons (.p _) (.cons (.p _) (.cons (.p _) (.cons (.p _) p5))))))))))))))))))))))))))))))))))))))))))))))))))))) .nil) fun v263 h => ?_
                 apply iU h <;> intro h
                 ·cases h; exact (.p _)
                 ·refine ifT (cF (by decide)) ?_
                  refine Q2 k28 ?_
                  refine cP h Q5 p2 fun v266 h => ?_
                  apply iU h <;> intro h
                  ·cases h; exact (.p _)
                  ·refine ifF (cF (by decide)) ?_
                   cases h; exact (.p _)
               ·refine ifT (cF (by decide)) ?_
                refine Q2 k26 ?_
                refine cP h Q6 (.cons (Frz.agg' (.cons (.p _) (.cons (.p _) (.cons (.p _) (.cons (.p _) (.cons (.p _) (.cons (.p _) (.cons (.p _) (.cons (.p _) (.cons (.p _) (.cons (.p _) (.cons (.p _) (.cons (.p _) (.cons (.p _) (.cons (.p _) (.cons (.p _) (.cons (.p _) (.cons (.p _) (.cons (.p _) (.cons (.p _) (.cons (.p _) (.cons (.p _) (.cons (.p _) (.cons (.p _) (.cons (.p _) (.cons (.p _) (.cons (.p _) (.cons (.p _) (.cons (.p _) (.cons (.p _) (.cons (.p _) (.cons (.p _) (.cons (.p _) (.cons (.p _) (.cons (.p _) (.cons (.p _) (.cons (.p _) (.cons (.p _) (.cons (.p _) (.cons (.p _) (.cons (.p _) (.cons (.p _) (.cons (.p _) (.cons (.p _) (.cons (.p _) (.cons (.p _) (.cons (.p _) (.cons (.p _) (.cons (.p _) (.cons (.p _) (.cons (.p _) (.cons (.p _) (.cons (.p _) p5))))))))))))))))))))))))))))))))))))))))))))))))))))) .nil) fun v269 h => ?_
                apply iU h <;> intro h
                ·cases h; exact (.p _)
                ·refine ifT (cF (by decide)) ?_
                 refine Q2 k28 ?_
                 refine cP h Q5 p2 fun v272 h => ?_
                 apply iU h <;> intro h
                 ·cases h; exact (.p _)
                 ·refine ifF (cF (by decide)) ?_
                  cases h; exact (.p _)
         ·refine ifT (cF (by decide)) ?_
          refine Q2 k22 ?_
          refine ifO h (fun hc275 h => ?_) (fun hc275 h => ?_)
          ·refine cP h Z1 (.cons (Frz.agg' (.cons (.p _) (.cons (.p _) (.cons (.p _) (.cons (.p _) (.cons (.p _) (.cons (.p _) (.cons (.p _) (.cons (.p _) (.cons (.p _) (.cons (.p _) (.cons (.p _) (.cons (.p _) (.cons (.p _) (.cons (.p _) (.cons (.p _) (.cons (.p _) (.cons (.p _) (.cons (.p _) (.cons (.p _) (.cons (.p _) (.cons (.p _) (.cons (.p _) (.cons (.p _) (.cons (.p _) (.cons (.p _) (.cons (.p _) (.cons (.p _) (.cons (.p _) (.cons (.p _) (.cons (.p _) (.cons (.p _) (.cons (.p _) (.cons (.p _) (.cons (.p _) (.cons (.p _) (.cons (.p _) (.cons (.p _) (.cons (.p _) (.cons (.p _) (.cons (.p _) (.cons (.p _) (.cons (.p _) (.cons (.p _) (.cons (.p _) (.cons (.p _) (.cons (.p _) (.cons (.p _) (.cons (.p _) (.cons (.p _) (.cons (.p _) (.cons (.p _) (.cons (.p _) p5))))))))))))))))))))))))))))))))))))))))))))))))))))) .nil) fun v276 h => ?_
           apply iU h <;> intro h
           ·cases h; exact (.p _)
           ·refine ifF (Q47 hc275) ?_
            refine ifT (cF (by decide)) ?_
            refine Q2 k24 ?_
            refine cP h Qd p3 fun v279 h => ?_
            apply iU h <;> intro h
            ·cases h; exact (.p _)
            ·refine ifT (cF (by decide)) ?_
             refine Q2 k25 ?_
             apply iU h <;> intro h
             ·apply iU h <;> intro h
              ·cases h; exact (.p _)
              ·refine ifT (cF (by decide)) ?_
               refine Q2 k26 ?_
               refine cP h Q6 (.cons (Frz.agg' (.cons (.p _) (.cons (.p _) (.cons (.p _) (.cons (.p _) (.cons (.p _) (.cons (.p _) (.cons (.p _) (.cons (.p _) (.cons (.p _) (.cons (.p _) (.cons (.p _) (.cons (.p _) (.cons (.p _) (.cons (.p _) (.cons (.p _) (.cons (.p _) (.cons (.p _) (.cons (.p _) (.cons (.p _) (.cons (.p _) (.cons (.p _) (.cons (.p _) (.cons (.p _) (.cons (.p _) (.cons (.p _) (.cons (.p _) (.cons (.p _) (.cons (.p _) (.cons (.p _) (.cons (.p _) (.cons (.p _) (.cons (.p _) (.cons (.p _) (.cons (.p _) (.cons (.p _) (.cons (.p _) (.cons (.p _) (.cons (.p _) (.cons (.p _) (.cons (.p _) (.cons (.p _) (.cons (.p _) (.cons (.p _) (.cons (.p _) (.cons (.p _) (.cons (.p _) (.cons (.p _) (.cons (.p _) (.cons (.p _) (.cons (.p _) (.cons (.p _) (.cons (.p _) p5))))))))))))))))))))))))))))))))))))))))))))))))))))) .nil) fun v284 h => ?_
               apply iU h <;> intro h
               ·cases h; exact (.p _)
               ·refine ifT (cF (by decide)) ?_
                refine Q2 k28 ?_
                refine cP h Q5 p2 fun v287 h => ?_
                apply iU h <;> intro h
                ·cases h; exact (.p _)
                ·refine ifF (cF (by decide)) ?_
                 cases h; exact (.p _)
             ·refine ifT (cF (by decide)) ?_
              refine Q2 k26 ?_
              refine cP h Q6 (.cons (Frz.agg' (.cons (.p _) (.cons (.p _) (.cons (.p _) (.cons (.p _) (.cons (.p _) (.cons (.p _) (.cons (.p _) (.cons (.p _) (.cons (.p _) (.cons (.p _) (.cons (.p _) (.cons (.p _) (.cons (.p _) (.cons (.p _) (.cons (.p _) (.cons (.p _) (.cons (.p _) (.cons (.p _) (.cons (.p _) (.cons (.p _) (.cons (.p _) (.cons (.p _) (.cons (.p _) (.cons (.p _) (.cons (.p _) (.cons (.p _) (.cons (.p _) (.cons (.p _) (.cons (.p _) (.cons (.p _) (.cons (.p _) (.cons (.p _) (.cons (.p _) (.cons (.p _) (.cons (.p _) (.cons (.p _) (.cons (.p _) (.cons (.p _) (.cons (.p _) (.cons (.p _) (.cons (.p _) (.cons (.p _) (.cons (.p _) (.cons (.p _) (.cons (.p _) (.cons (.p _) (.cons (.p _) (.cons (.p _) (.cons (.p _) (.cons (.p _) (.cons (.p _) (.cons (.p _) p5))))))))))))))))))))))))))))))))))))))))))))))))))))) .nil) fun v290 h => ?_
              apply iU h <;> intro h
              ·cases h; exact (.p _)
              ·refine ifT (cF (by decide)) ?_
               refine Q2 k28 ?_
               refine cP h Q5 p2 fun v293 h => ?_
               apply iU h <;> intro h
               ·cases h; exact (.p _)
               ·refine ifF (cF (by decide)) ?_
                cases h; exact (.p _)
          ·refine ifT (Qgb hc275) ?_
           apply iU h <;> intro h
           ·cases h; exact (.p _)
           ·apply iU h <;> intro h
            ·cases h; exact (.p _)
            ·refine ifT (cF (by decide)) ?_
             refine Q2 k24 ?_
             refine cP h Qd p3 fun v298 h => ?_
             apply iU h <;> intro h
             ·cases h; exact (.p _)
             ·refine ifT (cF (by decide)) ?_
              refine Q2 k25 ?_
              apply iU h <;> intro h
              ·apply iU h <;> intro h
               ·cases h; exact (.p _)
               ·refine ifT (cF (by decide)) ?_
                refine Q2 k26 ?_
                refine cP h Q6 (.cons (Frz.agg' (.cons (.p _) (.cons (.p _) (.cons (.p _) (.cons (.p _) (.cons (.p _) (.cons (.p _) (.cons (.p _) (.cons (.p _) (.cons (.p _) (.cons (.p _) (.cons (.p _) (.cons (.p _) (.cons (.p _) (.cons (.p _) (.cons (.p _) (.cons (.p _) (.cons (.p _) (.cons (.p _) (.cons (.p _) (.cons (.p _) (.cons (.p _) (.cons (.p _) (.cons (.p _) (.cons (.p _) (.cons (.p _) (.cons (.p _) (.cons (.p _) (.cons (.p _) (.cons (.p _) (.cons (.p _) (.cons (.p _) (.cons (.p _) (.cons (.p _) (.cons (.p _) (.cons (.p _) (.cons (.p _) (.cons (.p _) (.cons (.p _) (.cons (.p _) (.cons (.p _) (.cons (.p _) (.cons (.p _) (.cons (.p _) (.cons (.p _) (.cons (.p _) (.cons (.p _) (.cons (.p _) (.cons (.p _) (.cons (.p _) (.cons (.p _) (.cons (.p _) (.cons (.p _) p5))))))))))))))))))))))))))))))))))))))))))))))))))))) .nil) fun v303 h => ?_
                apply iU h <;> intro h
                ·cases h; exact (.p _)
                ·refine ifT (cF (by decide)) ?_
                 refine Q2 k28 ?_
                 refine cP h Q5 p2 fun v306 h => ?_
                 apply iU h <;> intro h
                 ·cases h; exact (.p _)
                 ·refine ifF (cF (by decide)) ?_
                  cases h; exact (.p _)
              ·refine ifT (cF (by decide)) ?_
               refine Q2 k26 ?_
               refine cP h Q6 (.cons (Frz.agg' (.cons (.p _) (.cons (.p _) (.cons (.p _) (.cons (.p _) (.cons (.p _) (.cons (.p _) (.cons (.p _) (.cons (.p _) (.cons (.p _) (.cons (.p _) (.cons (.p _) (.cons (.p _) (.cons (.p _) (.cons (.p _) (.cons (.p _) (.cons (.p _) (.cons (.p _) (.cons (.p _) (.cons (.p _) (.cons (.p _) (.cons (.p _) (.cons (.p _) (.cons (.p _) (.cons (.p _) (.cons (.p _) (.cons (.p _) (.cons (.p _) (.cons (.p _) (.cons (.p _) (.cons (.p _) (.cons (.p _) (.cons (.p _) (.cons (.p _) (.cons (.p _) (.cons (.p _) (.cons (.p _) (.cons (.p _) (.cons (.p _) (.cons (.p _) (.cons (.p _) (.cons (.p _) (.cons (.p _) (.cons (.p _) (.cons (.p _) (.cons (.p _) (.cons (.p _) (.cons (.p _) (.cons (.p _) (.cons (.p _) (.cons (.p _) (.cons (.p _) (.cons (.p _) p5))))))))))))))))))))))))))))))))))))))))))))))))))))) .nil) fun v309 h => ?_
               apply iU h <;> intro h
               ·cases h; exact (.p _)
               ·refine ifT (cF (by decide)) ?_
                refine Q2 k28 ?_
                refine cP h Q5 p2 fun v312 h => ?_
                apply iU h <;> intro h
                ·cases h; exact (.p _)
                ·refine ifF (cF (by decide)) ?_
                 cases h; exact (.p _)
       ·refine ifT (cF (by decide)) ?_
        refine Q2 k21 ?_
        apply iU h <;> intro h
        ·apply iU h <;> intro h
         ·cases h; exact (.p _)
         ·refine ifT (cF (by decide)) ?_
          refine Q2 k22 ?_
          refine ifO h (fun hc317 h => ?_) (fun hc317 h => ?_)
          ·refine cP h Z1 (.cons (Frz.agg' (.cons (.p _) (.cons (.p _) (.cons (.p _) (.cons (.p _) (.cons (.p _) (.cons (.p _) (.cons (.p _) (.cons (.p _) (.cons (.p _) (.cons (.p _) (.cons (.p _) (.cons (.p _) (.cons (.p _) (.cons (.p _) (.cons (.p _) (.cons (.p _) (.cons (.p _) (.cons (.p _) (.cons (.p _) (.cons (.p _) (.cons (.p _) (.cons (.p _) (.cons (.p _) (.cons (.p _) (.cons (.p _) (.cons (.p _) (.cons (.p _) (.cons (.p _) (.cons (.p _) (.cons (.p _) (.cons (.p _) (.cons (.p _) (.cons (.p _) (.cons (.p _) (.cons (.p _) (.cons (.p _) (.cons (.p _) (.cons (.p _) (.cons (.p _) (.cons (.p _) (.cons (.p _) (.cons (.p _) (.cons (.p _) (.cons (.p _) (.cons (.p _) (.cons (.p _) (.cons (.p _) (.cons (.p _) (.cons (.p _) (.cons (.p _) (.cons (.p _) (.cons (.p _) p5))))))))))))))))))))))))))))))))))))))))))))))))))))) .nil) fun v318 h => ?_
           apply iU h <;> intro h
           ·cases h; exact (.p _)
           ·refine ifF (Q47 hc317) ?_
            refine ifT (cF (by decide)) ?_
            refine Q2 k24 ?_
            refine cP h Qd p3 fun v321 h => ?_
            apply iU h <;> intro h
            ·cases h; exact (.p _)
            ·refine ifT (cF (by decide)) ?_
             refine Q2 k25 ?_
             apply iU h <;> intro h
             ·apply iU h <;> intro h
              ·cases h; exact (.p _)
              ·refine ifT (cF (by decide)) ?_
               refine Q2 k26 ?_
               refine cP h Q6 (.cons (Frz.agg' (.cons (.p _) (.cons (.p _) (.cons (.p _) (.cons (.p _) (.cons (.p _) (.cons (.p _) (.cons (.p _) (.cons (.p _) (.cons (.p _) (.cons (.p _) (.cons (.p _) (.cons (.p _) (.cons (.p _) (.cons (.p _) (.cons (.p _) (.cons (.p _) (.cons (.p _) (.cons (.p _) (.cons (.p _) (.cons (.p _) (.cons (.p _) (.cons (.p _) (.cons (.p _) (.cons (.p _) (.cons (.p _) (.cons (.p _) (.cons (.p _) (.cons (.p _) (.cons (.p _) (.cons (.p _) (.cons (.p _) (.cons (.p _) (.cons (.p _) (.cons (.p _) (.cons (.p _) (.cons (.p _) (.cons (.p _) (.cons (.p _) (.cons (.p _) (.cons (.p _) (.cons (.p _) (.cons (.p _) (.cons (.p _) (.cons (.p _) (.cons (.p _) (.cons (.p _) (.cons (.p _) (.cons (.p _) (.cons (.p _) (.cons (.p _) (.cons (.p _) (.cons (.p _) p5))))))))))))))))))))))))))))))))))))))))))))))))))))) .nil) fun v326 h => ?_
               apply iU h <;> intro h
               ·cases h; exact (.p _)
               ·refine ifT (cF (by decide)) ?_
                refine Q2 k28 ?_
                refine cP h Q5 p2 fun v329 h => ?_
                apply iU h <;> intro h
                ·cases h; exact (.p _)
                ·refine ifF (cF (by decide)) ?_
                 cases h; exact (.p _)
             ·refine ifT (cF (by decide)) ?_
              refine Q2 k26 ?_
              refine cP h Q6 (.cons (Frz.agg' (.cons (.p _) (.cons (.p _) (.cons (.p _) (.cons (.p _) (.cons (.p _) (.cons (.p _) (.cons (.p _) (.cons (.p _) (.cons (.p _) (.cons (.p _) (.cons (.p _) (.cons (.p _) (.cons (.p _) (.cons (.p _) (.cons (.p _) (.cons (.p _) (.cons (.p _) (.cons (.p _) (.cons (.p _) (.cons (.p _) (.cons (.p _) (.cons (.p _) (.cons (.p _) (.cons (.p _) (.cons (.p _) (.cons (.p _) (.cons (.p _) (.cons (.p _) (.cons (.p _) (.cons (.p _) (.cons (.p _) (.cons (.p _) (.cons (.p _) (.cons (.p _) (.cons (.p _) (.cons (.p _) (.cons (.p _) (.cons (.p _) (.cons (.p _) (.cons (.p _) (.cons (.p _) (.cons (.p _) (.cons (.p _) (.cons (.p _) (.cons (.p _) (.cons (.p _) (.cons (.p _) (.cons (.p _) (.cons (.p _) (.cons (.p _) (.cons (.p _) (.cons (.p _) p5))))))))))))))))))))))))))))))))))))))))))))))))))))) .nil) fun v332 h => ?_
              apply iU h <;> intro h
              ·cases h; exact (.p _)
              ·refine ifT (cF (by decide)) ?_
               refine Q2 k28 ?_
               refine cP h Q5 p2 fun v335 h => ?_
               apply iU h <;> intro h
               ·cases h; exact (.p _)
               ·refine ifF (cF (by decide)) ?_
                cases h; exact (.p _)
          ·refine ifT (Qgb hc317) ?_
           apply iU h <;> intro h
           ·cases h; exact (.p _)
           ·apply iU h <;> intro h
            ·cases h; exact (.p _)
            ·refine ifT (cF (by decide)) ?_
             refine Q2 k24 ?_
             refine cP h Qd p3 fun v340 h => ?_
             apply iU h <;> intro h
             ·cases h; exact (.p _)
             ·refine ifT (cF (by decide)) ?_
              refine Q2 k25 ?_
              apply iU h <;> intro h
              ·apply iU h <;> intro h
               ·cases h; exact (.p _)
               ·refine ifT (cF (by decide)) ?_
                refine Q2 k26 ?_
                refine cP h Q6 (.cons (Frz.agg' (.cons (.p _) (.cons (.p _) (.cons (.p _) (.cons (.p _) (.cons (.p _) (.cons (.p _) (.cons (.p _) (.cons (.p _) (.cons (.p _) (.cons (.p _) (.cons (.p _) (.cons (.p _) (.cons (.p _) (.cons (.p _) (.cons (.p _) (.cons (.p _) (.cons (.p _) (.cons (.p _) (.cons (.p _) (.cons (.p _) (.cons (.p _) (.cons (.p _) (.cons (.p _) (.cons (.p _) (.cons (.p _) (.cons (.p _) (.cons (.p _) (.cons (.p _) (.cons (.p _) (.cons (.p _) (.cons (.p _) (.cons (.p _) (.cons (.p _) (.cons (.p _) (.cons (.p _) (.cons (.p _) (.cons (.p _) (.cons (.p _) (.cons (.p _) (.cons (.p _) (.cons (.p _) (.cons (.p _) (.cons (.p _) (.cons (.p _) (.cons (.p _) (.cons (.p _) (.cons (.p _) (.cons (.p _) (.cons (.p _) (.cons (.p _) (.cons (.p _) (.cons (.p _) p5))))))))))))))))))))))))))))))))))))))))))))))))))))) .nil) fun v345 h => ?_
                apply iU h <;> intro h
                ·cases h; exact (.p _)
                ·refine ifT (cF (by decide)) ?_
                 refine Q2 k28 ?_
                 refine cP h Q5 p2 fun v348 h => ?_
                 apply iU h <;> intro h
                 ·cases h; exact (.p _)
                 ·refine ifF (cF (by decide)) ?_
                  cases h; exact (.p _)
              ·refine ifT (cF (by decide)) ?_
               refine Q2 k26 ?_
               refine cP h Q6 (.cons (Frz.agg' (.cons (.p _) (.cons (.p _) (.cons (.p _) (.cons (.p _) (.cons (.p _) (.cons (.p _) (.cons (.p _) (.cons (.p _) (.cons (.p _) (.cons (.p _) (.cons (.p _) (.cons (.p _) (.cons (.p _) (.cons (.p _) (.cons (.p _) (.cons (.p _) (.cons (.p _) (.cons (.p _) (.cons (.p _) (.cons (.p _) (.cons (.p _) (.cons (.p _) (.cons (.p _) (.cons (.p _) (.cons (.p _) (.cons (.p _) (.cons (.p _) (.cons (.p _) (.cons (.p _) (.cons (.p _) (.cons (.p _) (.cons (.p _) (.cons (.p _) (.cons (.p _) (.cons (.p _) (.cons (.p _) (.cons (.p _) (.cons (.p _) (.cons (.p _) (.cons (.p _) (.cons (.p _) (.cons (.p _) (.cons (.p _) (.cons (.p _) (.cons (.p _) (.cons (.p _) (.cons (.p _) (.cons (.p _) (.cons (.p _) (.cons (.p _) (.cons (.p _) (.cons (.p _) p5))))))))))))))))))))))))))))))))))))))))))))))))))))) .nil) fun v351 h => ?_
               apply iU h <;> intro h
               ·cases h; exact (.p _)
               ·refine ifT (cF (by decide)) ?_
                refine Q2 k28 ?_
                refine cP h Q5 p2 fun v354 h => ?_
                apply iU h <;> intro h
                ·cases h; exact (.p _)
                ·refine ifF (cF (by decide)) ?_
                 cases h; exact (.p _)
        ·refine ifT (cF (by decide)) ?_
         refine Q2 k22 ?_
         refine ifO h (fun hc357 h => ?_) (fun hc357 h => ?_)
         ·refine cP h Z1 (.cons (Frz.agg' (.cons (.p _) (.cons (.p _) (.cons (.p _) (.cons (.p _) (.cons (.p _) (.cons (.p _) (.cons (.p _) (.cons (.p _) (.cons (.p _) (.cons (.p _) (.cons (.p _) (.cons (.p _) (.cons (.p _) (.cons (.p _) (.cons (.p _) (.cons (.p _) (.cons (.p _) (.cons (.p _) (.cons (.p _) (.cons (.p _) (.cons (.p _) (.cons (.p _) (.cons (.p _) (.cons (.p _) (.cons (.p _) (.cons (.p _) (.cons (.p _) (.cons (.p _) (.cons (.p _) (.cons (.p _) (.cons (.p _) (.cons (.p _) (.cons (.p _) (.cons (.p _) (.cons (.p _) (.cons (.p _) (.cons (.p _) (.cons (.p _) (.cons (.p _) (.cons (.p _) (.cons (.p _) (.cons (.p _) (.cons (.p _) (.cons (.p _) (.cons (.p _) (.cons (.p _) (.cons (.p _) (.cons (.p _) (.cons (.p _) (.cons (.p _) (.cons (.p _) (.cons (.p _) p5))))))))))))))))))))))))))))))))))))))))))))))))))))) .nil) fun v358 h => ?_
          apply iU h <;> intro h
          ·cases h; exact (.p _)
          ·refine ifF (Q47 hc357) ?_
           refine ifT (cF (by decide)) ?_
           refine Q2 k24 ?_
           refine cP h Qd p3 fun v361 h => ?_
           apply iU h <;> intro h
           ·cases h; exact (.p _)
           ·refine ifT (cF (by decide)) ?_
            refine Q2 k25 ?_
            apply iU h <;> intro h
            ·apply iU h <;> intro h
             ·cases h; exact (.p _)
             ·refine ifT (cF (by decide)) ?_
              refine Q2 k26 ?_
              refine cP h Q6 (.cons (Frz.agg' (.cons (.p _) (.cons (.p _) (.cons (.p _) (.cons (.p _) (.cons (.p _) (.cons (.p _) (.cons (.p _) (.cons (.p _) (.cons (.p _) (.cons (.p _) (.cons (.p _) (.cons (.p _) (.cons (.p _) (.cons (.p _) (.cons (.p _) (.cons (.p _) (.cons (.p _) (.cons (.p _) (.cons (.p _) (.cons (.p _) (.cons (.p _) (.cons (.p _) (.cons (.p _) (.cons (.p _) (.cons (.p _) (.cons (.p _) (.cons (.p _) (.cons (.p _) (.cons (.p _) (.cons (.p _) (.cons (.p _) (.cons (.p _) (.cons (.p _) (.cons (.p _) (.cons (.p _) (.cons (.p _) (.cons (.p _) (.cons (.p _) (.cons (.p _) (.cons (.p _) (.cons (.p _) (.cons (.p _) (.cons (.p _) (.cons (.p _) (.cons (.p _) (.cons (.p _) (.cons (.p _) (.cons (.p _) (.cons (.p _) (.cons (.p _) (.cons (.p _) (.cons (.p _) p5))))))))))))))))))))))))))))))))))))))))))))))))))))) .nil) fun v366 h => ?_
              apply iU h <;> intro h
              ·cases h; exact (.p _)
              ·refine ifT (cF (by decide)) ?_
               refine Q2 k28 ?_
               refine cP h Q5 p2 fun v369 h => ?_
               apply iU h <;> intro h
               ·cases h; exact (.p _)
               ·refine ifF (cF (by decide)) ?_
                cases h; exact (.p _)
            ·refine ifT (cF (by decide)) ?_
             refine Q2 k26 ?_
             refine cP h Q6 (.cons (Frz.agg' (.cons (.p _) (.cons (.p _) (.cons (.p _) (.cons (.p _) (.cons (.p _) (.cons (.p _) (.cons (.p _) (.cons (.p _) (.cons (.p _) (.cons (.p _) (.cons (.p _) (.cons (.p _) (.cons (.p _) (.cons (.p _) (.cons (.p _) (.cons (.p _) (.cons (.p _) (.cons (.p _) (.cons (.p _) (.cons (.p _) (.cons (.p _) (.cons (.p _) (.cons (.p _) (.cons (.p _) (.cons (.p _) (.cons (.p _) (.cons (.p _) (.cons (.p _) (.cons (.p _) (.cons (.p _) (.cons (.p _) (.cons (.p _) (.cons (.p _) (.cons (.p _) (.cons (.p _) (.cons (.p _) (.cons (.p _) (.cons (.p _) (.cons (.p _) (.cons (.p _) (.cons (.p _) (.cons (.p _) (.cons (.p _) (.cons (.p _) (.cons (.p _) (.cons (.p _) (.cons (.p _) (.cons (.p _) (.cons (.p _) (.cons (.p _) (.cons (.p _) (.cons (.p _) p5))))))))))))))))))))))))))))))))))))))))))))))))))))) .nil) fun v372 h => ?_
             apply iU h <;> intro h
             ·cases h; exact (.p _)
             ·refine ifT (cF (by decide)) ?_
              refine Q2 k28 ?_
              refine cP h Q5 p2 fun v375 h => ?_
              apply iU h <;> intro h
              ·cases h; exact (.p _)
              ·refine ifF (cF (by decide)) ?_
               cases h; exact (.p _)
         ·refine ifT (Qgb hc357) ?_
          apply iU h <;> intro h
          ·cases h; exact (.p _)
          ·apply iU h <;> intro h
           ·cases h; exact (.p _)
           ·refine ifT (cF (by decide)) ?_
            refine Q2 k24 ?_
            refine cP h Qd p3 fun v380 h => ?_
            apply iU h <;> intro h
            ·cases h; exact (.p _)
            ·refine ifT (cF (by decide)) ?_
             refine Q2 k25 ?_
             apply iU h <;> intro h
             ·apply iU h <;> intro h
              ·cases h; exact (.p _)
              ·refine ifT (cF (by decide)) ?_
               refine Q2 k26 ?_
               refine cP h Q6 (.cons (Frz.agg' (.cons (.p _) (.cons (.p _) (.cons (.p _) (.cons (.p _) (.cons (.p _) (.cons (.p _) (.cons (.p _) (.cons (.p _) (.cons (.p _) (.cons (.p _) (.cons (.p _) (.cons (.p _) (.cons (.p _) (.cons (.p _) (.cons (.p _) (.cons (.p _) (.cons (.p _) (.cons (.p _) (.cons (.p _) (.cons (.p _) (.cons (.p _) (.cons (.p _) (.cons (.p _) (.cons (.p _) (.cons (.p _) (.cons (.p _) (.cons (.p _) (.cons (.p _) (.cons (.p _) (.cons (.p _) (.cons (.p _) (.cons (.p _) (.cons (.p _) (.cons (.p _) (.cons (.p _) (.cons (.p _) (.cons (.p _) (.cons (.p _) (.cons (.p _) (.cons (.p _) (.cons (.p _) (.cons (.p _) (.cons (.p _) (.cons (.p _) (.cons (.p _) (.cons (.p _) (.cons (.p _) (.cons (.p _) (.cons (.p _) (.cons (.p _) (.cons (.p _) (.cons (.p _) p5))))))))))))))))))))))))))))))))))))))))))))))))))))) .nil) fun v385 h => ?_
               apply iU h <;> intro h
               ·cases h; exact (.p _)
               ·refine ifT (cF (by decide)) ?_
                refine Q2 k28 ?_
                refine cP h Q5 p2 fun v388 h => ?_
                apply iU h <;> intro h
                ·cases h; exact (.p _)
                ·refine ifF (cF (by decide)) ?_
                 cases h; exact (.p _)
             ·refine ifT (cF (by decide)) ?_
              refine Q2 k26 ?_
              refine cP h Q6 (.cons (Frz.agg' (.cons (.p _) (.cons (.p _) (.cons (.p _) (.cons (.p _) (.cons (.p _) (.cons (.p _) (.cons (.p _) (.cons (.p _) (.cons (.p _) (.cons (.p _) (.cons (.p _) (.cons (.p _) (.cons (.p _) (.cons (.p _) (.cons (.p _) (.cons (.p _) (.cons (.p _) (.cons (.p _) (.cons (.p _) (.cons (.p _) (.cons (.p _) (.cons (.p _) (.cons (.p _) (.cons (.p _) (.cons (.p _) (.cons (.p _) (.cons (.p _) (.cons (.p _) (.cons (.p _) (.cons (.p _) (.cons (.p _) (.cons (.p _) (.cons (.p _) (.cons (.p _) (.cons (.p _) (.cons (.p _) (.cons (.p _) (.cons (.p _) (.cons (.p _) (.cons (.p _) (.cons (.p _) (.cons (.p _) (.cons (.p _) (.cons (.p _) (.cons (.p _) (.cons (.p _) (.cons (.p _) (.cons (.p _) (.cons (.p _) (.cons (.p _) (.cons (.p _) (.cons (.p _) p5))))))))))))))))))))))))))))))))))))))))))))))))))))) .nil) fun v391 h => ?_
              apply iU h <;> intro h
              ·cases h; exact (.p _)
              ·refine ifT (cF (by decide)) ?_
               refine Q2 k28 ?_
               refine cP h Q5 p2 fun v394 h => ?_
               apply iU h <;> intro h
               ·cases h; exact (.p _)
               ·refine ifF (cF (by decide)) ?_
                cases h; exact (.p _)
def Ya (N : Nat) (a : Yb) (b : Yb) : Option (Bool) :=
 (Y0 N a).bind fun v1 =>
 cond (!v1)
 (some true)
 ((Y0 N b).bind fun v4 =>
 cond (!v4)
 (some true)
 ((Yq N a).bind fun v7 =>
 cond (Qa .neq v7 0)
 (some true)
 ((Yq N b).bind fun v10 =>
 cond (Qa .neq v10 0)
 (some true)
 (cond (Qa .eql a.Proto b.Proto)
 (cond (Q0n .eql a.Topic b.Topic)
 (cond (Qa .eql a.QoS b.QoS)
 (cond (a.Retain == b.Retain)
 ((Zt N a).bind fun v17 =>
 (Zt N b).bind fun v19 =>
 some ((Q0n .eql v17 v19) == (Qa .eql (a.Payload.length : Int) (b.Payload.length : Int))))
 ((Zt N a).bind fun v21 =>
 (Zt N b).bind fun v23 =>
 some ((Q0n .eql v21 v23) == false)))
 ((Zt N a).bind fun v25 =>
 (Zt N b).bind fun v27 =>
 some ((Q0n .eql v25 v27) == false)))
 ((Zt N a).bind fun v29 =>
 (Zt N b).bind fun v31 =>
 some ((Q0n .eql v29 v31) == false)))
 ((Zt N a).bind fun v33 =>
 (Zt N b).bind fun v35 =>
 some ((Q0n .eql v33 v35) == false))))))
theorem U2 {N} {a} {b} {r} (h : Ya N a b = some r) : Xl Tryz.prog G1 3 [.agg (Yb.cells a), .agg (Yb.cells b)] (.bool r) := by
 refine Q3 k3 ?_
 unfold Ya at h
 rw [cX, cY] at h
 refine Wd Qip .nil ?_
 refine cP h Wf (.cons (Frz.agg' (.cons (.p _) (.cons (.p _) (.cons (.p _) (.cons (.p _) (.cons (.p _) (.cons (.p _) (.cons (.p _) (.cons (.p _) (.cons (.p _) (.cons (.p _) (.cons (.p _) (.cons (.p _) (.cons (.p _) (.cons (.p _) (.cons (.p _) (.cons (.p _) (.cons (.p _) (.cons (.p _) (.cons (.p _) (.cons (.p _) (.cons (.p _) (.cons (.p _) (.cons (.p _) (.cons (.p _) (.cons (.p _) (.cons (.p _) (.cons (.p _) (.cons (.p _) (.cons (.p _) (.cons (.p _) (.cons (.p _) (.cons (.p _) (.cons (.p _) (.cons (.p _) (.cons (.p _) (.cons (.p _) (.cons (.p _) (.cons (.p _) (.cons (.p _) (.cons (.p _) (.cons (.p _) (.cons (.p _) (.cons (.p _) (.cons (.p _) (.cons (.p _) (.cons (.p _) (.cons (.p _) (.cons (.p _) (.cons (.p _) (.cons (.p _) (.cons (.p _) (.cons (.p _) p5))))))))))))))))))))))))))))))))))))))))))))))))))))) .nil) fun v1 h => ?_
 apply iU h <;> intro h
 ·cases h; exact (.p _)
 ·refine cP h Wf (.cons (Frz.agg' (.cons (.p _) (.cons (.p _) (.cons (.p _) (.cons (.p _) (.cons (.p _) (.cons (.p _) (.cons (.p _) (.cons (.p _) (.cons (.p _) (.cons (.p _) (.cons (.p _) (.cons (.p _) (.cons (.p _) (.cons (.p _) (.cons (.p _) (.cons (.p _) (.cons (.p _) (.cons (.p _) (.cons (.p _) (.cons (.p _) (.cons (.p _) (.cons (.p _) (.cons (.p _) (.cons (.p _) (.cons (.p _) (.cons (.p _) (.cons (.p _) (.cons (.p _) (.cons (.p _) (.cons (.p _) (.cons (.p _) (.cons (.p _) (.cons (.p _) (.cons (.p _) (.cons (.p _) (.cons (.p _) (.cons (.p _) (.cons (.p _) (.cons (.p _) (.cons (.p _) (.cons (.p _) (.cons (.p _) (.cons (.p _) (.cons (.p _) (.cons (.p _) (.cons (.p _) (.cons (.p _) (.cons (.p _) (.cons (.p _) (.cons (.p _) (.cons (.p _) (.cons (.p _) p5))))))))))))))))))))))))))))))))))))))))))))))))))))) .nil) fun v4 h => ?_
  apply iU h <;> intro h
  ·cases h; exact (.p _)
  ·refine cP h J3 (.cons (Frz.agg' (.cons (.p _) (.cons (.p _) (.cons (.p _) (.cons (.p _) (.cons (.p _) (.cons (.p _) (.cons (.p _) (.cons (.p _) (.cons (.p _) (.cons (.p _) (.cons (.p _) (.cons (.p _) (.cons (.p _) (.cons (.p _) (.cons (.p _) (.cons (.p _) (.cons (.p _) (.cons (.p _) (.cons (.p _) (.cons (.p _) (.cons (.p _) (.cons (.p _) (.cons (.p _) (.cons (.p _) (.cons (.p _) (.cons (.p _) (.cons (.p _) (.cons (.p _) (.cons (.p _) (.cons (.p _) (.cons (.p _) (.cons (.p _) (.cons (.p _) (.cons (.p _) (.cons (.p _) (.cons (.p _) (.cons (.p _) (.cons (.p _) (.cons (.p _) (.cons (.p _) (.cons (.p _) (.cons (.p _) (.cons (.p _) (.cons (.p _) (.cons (.p _) (.cons (.p _) (.cons (.p _) (.cons (.p _) (.cons (.p _) (.cons (.p _) (.cons (.p _) (.cons (.p _) p5))))))))))))))))))))))))))))))))))))))))))))))))))))) .nil) fun v7 h => ?_
   apply iU h <;> intro h
   ·cases h; exact (.p _)
   ·refine cP h J3 (.cons (Frz.agg' (.cons (.p _) (.cons (.p _) (.cons (.p _) (.cons (.p _) (.cons (.p _) (.cons (.p _) (.cons (.p _) (.cons (.p _) (.cons (.p _) (.cons (.p _) (.cons (.p _) (.cons (.p _) (.cons (.p _) (.cons (.p _) (.cons (.p _) (.cons (.p _) (.cons (.p _) (.cons (.p _) (.cons (.p _) (.cons (.p _) (.cons (.p _) (.cons (.p _) (.cons (.p _) (.cons (.p _) (.cons (.p _) (.cons (.p _) (.cons (.p _) (.cons (.p _) (.cons (.p _) (.cons (.p _) (.cons (.p _) (.cons (.p _) (.cons (.p _) (.cons (.p _) (.cons (.p _) (.cons (.p _) (.cons (.p _) (.cons (.p _) (.cons (.p _) (.cons (.p _) (.cons (.p _) (.cons (.p _) (.cons (.p _) (.cons (.p _) (.cons (.p _) (.cons (.p _) (.cons (.p _) (.cons (.p _) (.cons (.p _) (.cons (.p _) (.cons (.p _) (.cons (.p _) p5))))))))))))))))))))))))))))))))))))))))))))))))))))) .nil) fun v10 h => ?_
    apply iU h <;> intro h
    ·cases h; exact (.p _)
    ·apply iU h <;> intro h
     ·apply iU h <;> intro h
      ·apply iU h <;> intro h
       ·apply iU h <;> intro h
        ·refine Ql ?_
         refine cD h Zw (.cons (Frz.agg' (.cons (.p _) (.cons (.p _) (.cons (.p _) (.cons (.p _) (.cons (.p _) (.cons (.p _) (.cons (.p _) (.cons (.p _) (.cons (.p _) (.cons (.p _) (.cons (.p _) (.cons (.p _) (.cons (.p _) (.cons (.p _) (.cons (.p _) (.cons (.p _) (.cons (.p _) (.cons (.p _) (.cons (.p _) (.cons (.p _) (.cons (.p _) (.cons (.p _) (.cons (.p _) (.cons (.p _) (.cons (.p _) (.cons (.p _) (.cons (.p _) (.cons (.p _) (.cons (.p _) (.cons (.p _) (.cons (.p _) (.cons (.p _) (.cons (.p _) (.cons (.p _) (.cons (.p _) (.cons (.p _) (.cons (.p _) (.cons (.p _) (.cons (.p _) (.cons (.p _) (.cons (.p _) (.cons (.p _) (.cons (.p _) (.cons (.p _) (.cons (.p _) (.cons (.p _) (.cons (.p _) (.cons (.p _) (.cons (.p _) (.cons (.p _) (.cons (.p _) (.cons (.p _) p5))))))))))))))))))))))))))))))))))))))))))))))))))))) .nil) fun v17 h => ?_
         refine cD h Zw (.cons (Frz.agg' (.cons (.p _) (.cons (.p _) (.cons (.p _) (.cons (.p _) (.cons (.p _) (.cons (.p _) (.cons (.p _) (.cons (.p _) (.cons (.p _) (.cons (.p _) (.cons (.p _) (.cons (.p _) (.cons (.p _) (.cons (.p _) (.cons (.p _) (.cons (.p _) (.cons (.p _) (.cons (.p _) (.cons (.p _) (.cons (.p _) (.cons (.p _) (.cons (.p _) (.cons (.p _) (.cons (.p _) (.cons (.p _) (.cons (.p _) (.cons (.p _) (.cons (.p _) (.cons (.p _) (.cons (.p _) (.cons (.p _) (.cons (.p _) (.cons (.p _) (.cons (.p _) (.cons (.p _) (.cons (.p _) (.cons (.p _) (.cons (.p _) (.cons (.p _) (.cons (.p _) (.cons (.p _) (.cons (.p _) (.cons (.p _) (.cons (.p _) (.cons (.p _) (.cons (.p _) (.cons (.p _) (.cons (.p _) (.cons (.p _) (.cons (.p _) (.cons (.p _) (.cons (.p _) p5))))))))))))))))))))))))))))))))))))))))))))))))))))) .nil) fun v19 h => ?_
         cases h; exact (.p _)
        ·refine Ql ?_
         refine cD h Zw (.cons (Frz.agg' (.cons (.p _) (.cons (.p _) (.cons (.p _) (.cons (.p _) (.cons (.p _) (.cons (.p _) (.cons (.p _) (.cons (.p _) (.cons (.p _) (.cons (.p _) (.cons (.p _) (.cons (.p _) (.cons (.p _) (.cons (.p _) (.cons (.p _) (.cons (.p _) (.cons (.p _) (.cons (.p _) (.cons (.p _) (.cons (.p _) (.cons (.p _) (.cons (.p _) (.cons (.p _) (.cons (.p _) (.cons (.p _) (.cons (.p _) (.cons (.p _) (.cons (.p _) (.cons (.p _) (.cons (.p _) (.cons (.p _) (.cons (.p _) (.cons (.p _) (.cons (.p _) (.cons (.p _) (.cons (.p _) (.cons (.p _) (.cons (.p _) (.cons (.p _) (.cons (.p _) (.cons (.p _) (.cons (.p _) (.cons (.p _) (.cons (.p _) (.cons (.p _) (.cons (.p _) (.cons (.p _) (.cons (.p _) (.cons (.p _) (.cons (.p _) (.cons (.p _) (.cons (.p _) p5))))))))))))))))))))))))))))))))))))))))))))))))))))) .nil) fun v21 h => ?_
         refine cD h Zw (.cons (Frz.agg' (.cons (.p _) (.cons (.p _) (.cons (.p _) (.cons (.p _) (.cons (.p _) (.cons (.p _) (.cons (.p _) (.cons (.p _) (.cons (.p _) (.cons (.p _) (.cons (.p _) (.cons (.p _) (.cons (.p _) (.cons (.p _) (.cons (.p _) (.cons (.p _) (.cons (.p _) (.cons (.p _) (.cons (.p _) (.cons (.p _) (.cons (.p _) (.cons (.p _) (.cons (.p _) (.cons (.p _) (.cons (.p _) (.cons (.p _) (.cons (.p _) (.cons (.p _) (.cons (.p _) (.cons (.p _) (.cons (.p _) (.cons (.p _) (.cons (.p _) (.cons (.p _) (.cons (.p _) (.cons (.p _) (.cons (.p _) (.cons (.p _) (.cons (.p _) (.cons (.p _) (.cons (.p _) (.cons (.p _) (.cons (.p _) (.cons (.p _) (.cons (.p _) (.cons (.p _) (.cons (.p _) (.cons (.p _) (.cons (.p _) (.cons (.p _) (.cons (.p _) (.cons (.p _) p5))))))))))))))))))))))))))))))))))))))))))))))))))))) .nil) fun v23 h => ?_
         cases h; exact (.p _)
       ·refine Ql ?_
        refine cD h Zw (.cons (Frz.agg' (.cons (.p _) (.cons (.p _) (.cons (.p _) (.cons (.p _) (.cons (.p _) (.cons (.p _) (.cons (.p _) (.cons (.p _) (.cons (.p _) (.cons (.p _) (.cons (.p _) (.cons (.p _) (.cons (.p _) (.cons (.p _) (.cons (.p _) (.cons (.p _) (.cons (.p _) (.cons (.p _) (.cons (.p _) (.cons (.p _) (.cons (.p _) (.cons (.p _) (.cons (.p _) (.cons (.p _) (.cons (.p _) (.cons (.p _) (.cons (.p _) (.cons (.p _) (.cons (.p _) (.cons (.p _) (.cons (.p _) (.cons (.p _) (.cons (.p _) (.cons (.p _) (.cons (.p _) (.cons (.p _) (.cons (.p _) (.cons (.p _) (.cons (.p _) (.cons (.p _) (.cons (.p _) (.cons (.p _) (.cons (.p _) (.cons (.p _) (.cons (.p _) (.cons (.p _) (.cons (.p _) (.cons (.p _) (.cons (.p _) (.cons (.p _) (.cons (.p _) (.cons (.p _) p5))))))))))))))))))))))))))))))))))))))))))))))))))))) .nil) fun v25 h => ?_
        refine cD h Zw (.cons (Frz.agg' (.cons (.p _) (.cons (.p _) (.cons (.p _) (.cons (.p _) (.cons (.p _) (.cons (.p _) (.cons (.p _) (.cons (.p _) (.cons (.p _) (.cons (.p _) (.cons (.p _) (.cons (.p _) (.cons (.p _) (.cons (.p _) (.cons (.p _) (.cons (.p _) (.cons (.p _) (.cons (.p _) (.cons (.p _) (.cons (.p _) (.cons (.p _) (.cons (.p _) (.cons (.p _) (.cons (.p _) (.cons (.p _) (.cons (.p _) (.cons (.p _) (.cons (.p _) (.cons (.p _) (.cons (.p _) (.cons (.p _) (.cons (.p _) (.cons (.p _) (.cons (.p _) (.cons (.p _) (.cons (.p _) (.cons (.p _) (.cons (.p _) (.cons (.p _) (.cons (.p _) (.cons (.p _) (.cons (.p _) (.cons (.p _) (.cons (.p _) (.cons (.p _) (.cons (.p _) (.cons (.p _) (.cons (.p _) (.cons (.p _) (.cons (.p _) (.cons (.p _) (.cons (.p _) p5))))))))))))))))))))))))))))))))))))))))))))))))))))) .nil) fun v27 h => ?_
        cases h; exact (.p _)
      ·refine Ql ?_
       refine cD h Zw (.cons (Frz.agg' (.cons (.p _) (.cons (.p _) (.cons (.p _) (.cons (.p _) (.cons (.p _) (.cons (.p _) (.cons (.p _) (.cons (.p _) (.cons (.p _) (.cons (.p _) (.cons (.p _) (.cons (.p _) (.cons (.p _) (.cons (.p _) (.cons (.p _) (.cons (.p _) (.cons (.p _) (.cons (.p _) (.cons (.p _) (.cons (.p _) (.cons (.p _) (.cons (.p _) (.cons (.p _) (.cons (.p _) (.cons (.p _) (.cons (.p _) (.cons (.p _) (.cons (.p _) (.cons (.p _) (.cons (.p _) (.cons (.p _) (.cons (.p _) (.cons (.p _) (.cons (.p _) (.cons (.p _) (.cons (.p _) (.cons (.p _) (.cons (.p _) (.cons (.p _) (.cons (.p _) (.cons (.p _) (.cons (.p _) (.cons (.p _) (.cons (.p _) (.cons (.p _) (.cons (.p _) (.cons (.p _) (.cons (.p _) (.cons (.p _) (.cons (.p _) (.cons (.p _) (.cons (.p _) p5))))))))))))))))))))))))))))))))))))))))))))))))))))) .nil) fun v29 h => ?_
       refine cD h Zw (.cons (Frz.agg' (.cons (.p _) (.cons (.p _) (.cons (.p _) (.cons (.p _) (.cons (.p _) (.cons (.p _) (.cons (.p _) (.cons (.p _) (.cons (.p _) (.cons (.p _) (.cons (.p _) (.cons (.p _) (.cons (.p _) (.cons (.p _) (.cons (.p _) (.cons (.p _) (.cons (.p _) (.cons (.p _) (.cons (.p _) (.cons (.p _) (.cons (.p _) (.cons (.p _) (.cons (.p _) (.cons (.p _) (.cons (.p _) (.cons (.p _) (.cons (.p _) (.cons (.p _) (.cons (.p _) (.cons (.p _) (.cons (.p _) (.cons (.p _) (.cons (.p _) (.cons (.p _) (.cons (.p _) (.cons (.p _) (.cons (.p _) (.cons (.p _) (.cons (.p _) (.cons (.p _) (.cons (.p _) (.cons (.p _) (.cons (.p _) (.cons (.p _) (.cons (.p _) (.cons (.p _) (.cons (.p _) (.cons (.p _) (.cons (.p _) (.cons (.p _) (.cons (.p _) (.cons (.p _) p5))))))))))))))))))))))))))))))))))))))))))))))))))))) .nil) fun v31 h => ?_
       cases h; exact (.p _)
     ·refine Ql ?_
      refine cD h Zw (.cons (Frz.agg' (.cons (.p _) (.cons (.p _) (.cons (.p _) (.cons (.p _) (.cons (.p _) (.cons (.p _) (.cons (.p _) (.cons (.p _) (.cons (.p _) (.cons (.p _) (.cons (.p _) (.cons (.p _) (.cons (.p _) (.cons (.p _) (.cons (.p _) (.cons (.p _) (.cons (.p _) (.cons (.p _) (.cons (.p _) (.cons (.p _) (.cons (.p _) (.cons (.p _) (.cons (.p _) (.cons (.p _) (.cons (.p _) (.cons (.p _) (.cons (.p _) (.cons (.p _) (.cons (.p _) (.cons (.p _) (.cons (.p _) (.cons (.p _) (.cons (.p _) (.cons (.p _) (.cons (.p _) (.cons (.p _) (.cons (.p _) (.cons (.p _) (.cons (.p _) (.cons (.p _) (.cons (.p _) (.cons (.p _) (.cons (.p _) (.cons (.p _) (.cons (.p _) (.cons (.p _) (.cons (.p _) (.cons (.p _) (.cons (.p _) (.cons (.p _) (.cons (.p _) (.cons (.p _) p5))))))))))))))))))))))))))))))))))))))))))))))))))))) .nil) fun v33 h => ?_
      refine cD h Zw (.cons (Frz.agg' (.cons (.p _) (.cons (.p _) (.cons (.p _) (.cons (.p _) (.cons (.p _) (.cons (.p _) (.cons (.p _) (.cons (.p _) (.cons (.p _) (.cons (.p _) (.cons (.p _) (.cons (.p _) (.cons (.p _) (.cons (.p _) (.cons (.p _) (.cons (.p _) (.cons (.p _) (.cons (.p _) (.cons (.p _) (.cons (.p _) (.cons (.p _) (.cons (.p _) (.cons (.p _) (.cons (.p _) (.cons (.p _) (.cons (.p _) (.cons (.p _) (.cons (.p _) (.cons (.p _) (.cons (.p _) (.cons (.p _) (.cons (.p _) (.cons (.p _) (.cons (.p _) (.cons (.p _) (.cons (.p _) (.cons (.p _) (.cons (.p _) (.cons (.p _) (.cons (.p _) (.cons (.p _) (.cons (.p _) (.cons (.p _) (.cons (.p _) (.cons (.p _) (.cons (.p _) (.cons (.p _) (.cons (.p _) (.cons (.p _) (.cons (.p _) (.cons (.p _) (.cons (.p _) p5))))))))))))))))))))))))))))))))))))))))))))))))))))) .nil) fun v35 h => ?_
      cases h; exact (.p _)
end
end
end Go.Av
